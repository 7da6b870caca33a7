import Derived.Test.YtllohoibifcmdaaGreatP05
import Derived.RangeFuncCalls
import Derived.TacticsInMore
import Derived.OrdersIn
import Derived.RangeFuncWrites
import Derived.RangeFuncBound
import Derived.RangeFuncBox
import Derived.RangeFuncLeaves
import Derived.RangeFuncNested
import Derived.Shelf.Abstract
import Derived.OwnWalkIn
import Derived.LoopNIn
import Derived.LoopIn
import Derived.Great.BuildSlice
import Derived.ProofKit
import Derived.OpenShut
import Derived.JoinedCond
import Derived.Deep.Slices
set_option linter.unusedVariables false
set_option linter.unusedSimpArgs false
namespace Go.Proofs.YtllohoibifcmdaaGreat
open Go.RowKit Rgn
set_option maxHeartbeats 4000000
set_option maxRecDepth 100000
variable {S : Nat → Prop} {W : World}
theorem hDivB (x : Cx) (y : Cx) (p0 : gwhole (rg x) = true) (p1 : gwhole (rg y) = true) (p2 : y.zero = true) :
  Calls Tryz.prog 23 #[gV x, gV y] W (RetV (.tuple #[.agg #[.bool false, .string ⟨#[]⟩, .bool false, .string ⟨#[]⟩, .bool false, .string ⟨#[]⟩, .bool false, .string ⟨#[]⟩], .agg #[.bool false, .string ⟨#[]⟩, .bool false, .string ⟨#[]⟩, .bool false, .string ⟨#[]⟩, .bool false, .string ⟨#[]⟩], .int .i64 5]) W) := by
 have bel := b0 W
 go_enter Tryz.func23, Tryz.ntmps23
 refine gs 5 (Amb Z0 W) fun _ K1 => ?_
 refine .bx rfl (fun H => H.v 0 (gV x)) ?_
 refine .bx rfl (fun H => H.v 1 (gV y)) ?_
 refine .al rfl zG ?_
 refine .al rfl zG ?_
 refine .mc rfl ?_
 refine .dk (fun u => gV x::gV y::sq u 0 5 (us 55)) K1 bel fun u1 w1 D bel => ?_
 obtain ⟨b2, E1_0, A_b2, B_b2⟩ := D.nw 0
 obtain ⟨b3, E1_1, A_b3, B_b3⟩ := D.nw 1
 obtain ⟨b4, E1_2, A_b4, B_b4⟩ := D.nw 2
 obtain ⟨b5, E1_3, A_b5, B_b5⟩ := D.nw 3
 have E1_4 := D.q 4
 have N_b2_b4 := D.n2 0 2 E1_0 E1_2
 have N_b3_b4 := D.n2 1 2 E1_1 E1_2
 have N_b2_b5 := D.n2 0 3 E1_0 E1_3
 have N_b3_b5 := D.n2 1 3 E1_1 E1_3
 have N_b4_b5 := D.n2 2 3 E1_2 E1_3
 clear D
 refine wp_seq_k fun _ K6 => ?_
 refine wp_block ?_
 refine gs 9 (Amb Z0 W) fun _ K7 => ?_
 refine .lr rfl 2 E1_0 B_b2 ?_
 refine .cK rfl (V := .bool true) Tryz.func28 (fun H => ⟨_, ar1 (H.g 15 0), reV (congrArg Value.bool p0) (hWhole (rg x))⟩) ?_
 refine .e rfl (V := .bool false) (fun H => x_not (H.g 16 1)) ?_
 refine .mv rfl 2 ?_
 refine .lr rfl 3 E1_1 B_b3 ?_ (hg := gq 3 rfl)
 refine .cK rfl (V := .bool true) Tryz.func28 (fun H => ⟨_, ar1 (H.g 19 4), reV (congrArg Value.bool p1) (hWhole (rg y))⟩) ?_ (hg := gq 3 rfl)
 refine .e rfl (V := .bool false) (fun H => x_not (H.g 20 5)) ?_ (hg := gq 3 rfl)
 refine .e rfl (fun H => x_pkF (H.g 18 3) (H.g 21 6)) ?_
 refine .mv rfl 7 ?_
 refine .dk (fun u => gV x::gV y::sq u1 0 5 (U::U::U::U::U::U::U::u 8::sq u 0 8 (us 39))) K7 bel fun u2 w2 D bel => ?_
 have E2_8 := D.q 8
 replace B_b2 := D.k B_b2
 replace B_b3 := D.k B_b3
 replace B_b4 := D.k B_b4
 replace B_b5 := D.k B_b5
 clear D
 refine wp_cond_false (by exact E2_8) ?_
 refine gs 3 (Amb Z0 W) fun _ K8 => ?_
 refine .lr rfl 3 E1_1 B_b3 ?_
 refine .cK rfl (V := .bool true) Tryz.func37 (fun H => ⟨_, ar1 (H.g 26 0), reV (congrArg Value.bool (zero_dec1 p2)) (gaZero (rg y))⟩) ?_
 refine .mv rfl 1 ?_
 refine .dk (fun u => gV x::gV y::sq u1 0 5 (U::U::U::U::U::U::U::u2 8::sq u2 0 8 (U::U::u 2::u 0::u 1::us 34))) K8 bel fun u3 w3 D bel => ?_
 have E3_2 := D.q 2
 replace B_b2 := D.k B_b2
 replace B_b3 := D.k B_b3
 replace B_b4 := D.k B_b4
 replace B_b5 := D.k B_b5
 clear D
 refine wp_cond_true (by exact E3_2) ?_
 refine wp_seq_k fun _ K9 => ?_
 refine go2_seq 5 rfl (Amb Z0 W) [(b4, 2), (b5, 3)] [2, 3] (Olds.cons (R0 := fun _ => True) (lt_of B_b4) (by simp [(Ne.symm N_b4_b5)]) (Olds.one (lt_of B_b5))) (by kernel_rfl) ?_
 refine .e rfl (V := .agg zG) (fun H => by clear H; go_simp) ?_
 refine .e rfl (V := .agg zG) (fun H => by clear H; go_simp) ?_
 refine .sz rfl 0 B_b4 (lt_of B_b4) (by intro y k hy; match y, hy with | 0, hy => rfl | 1, hy => simp at hy; exact absurd hy.1 (Ne.symm N_b4_b5)) (fun H => ⟨(H.z 4 E1_2), (H.g 28 0)⟩) ?_
 refine .sz rfl 1 B_b5 (lt_of B_b5) (by intro y k hy; match y, hy with | 0, hy => simp at hy; exact absurd hy.1 N_b4_b5 | 1, hy => rfl) (fun H => ⟨(H.z 5 E1_3), (H.g 29 1)⟩) ?_
 refine .mc rfl ?_
 refine .dd (fun u => ⟨List.toArray (gV x::gV y::sq u1 0 4 (u 4::U::U::U::U::U::U::U::u2 8::sq u2 0 8 (U::U::u3 2::u3 0::u3 1::u 0::u 1::us 32))), []⟩) bel.size fun u4 w4 D => ?_
 have E4_4 := D.q 4
 replace B_b4 := D.ol 2
 replace B_b5 := D.ol 3
 replace bel := D.d.base.bel bel bel.size (by simp; omega)
 clear D
 refine K9 _ _ ?_
 refine wp_ret ?_
 refine ret_ok rfl (by exact results_mix3 rfl (by exact E1_2) B_b4 Tryz.underlying30 rfl (by kernel_rfl) (by exact E1_3) B_b5 Tryz.underlying30 rfl (by kernel_rfl) (by exact E4_4)) (RetV.mk ?_ bel)
 exact congrArg Ending.returned (rfl)
set_option maxHeartbeats 8000000 in
theorem hGcdC {N : Nat} {r : Cx × Cx × Cx} (x : Cx) (y : Cx) (p0 : gwhole (rg x) = true) (p1 : gwhole (rg y) = true) (p2 : combC N x (Cx.ofInt (1 : Int) (0 : Int)) (Cx.ofInt (0 : Int) (0 : Int)) y (Cx.ofInt (0 : Int) (0 : Int)) (Cx.ofInt (1 : Int) (0 : Int)) = some r) (p3 : gfits (rg (r.1.mul (unitC (firstC r.1).toNat))) = true) :
  Calls Tryz.prog 24 #[gV x, gV y] W (RetV (.tuple #[gV (r.1.mul (unitC (firstC r.1).toNat)), .int .i64 0]) W) := by
 have k0 := (comb_bd p2).1
 have k1 := comb_res p2
 have k2 := ht_unit (firstC r.1).toNat
 have k3 := hc_mul r.1 (unitC (firstC r.1).toNat)
 have bel := b0 W
 go_enter Tryz.func24, Tryz.ntmps24
 refine gs 4 (Amb Z0 W) fun _ K1 => ?_
 refine .bx rfl (fun H => H.v 0 (gV x)) ?_
 refine .bx rfl (fun H => H.v 1 (gV y)) ?_
 refine .al rfl zG ?_
 refine .mc rfl ?_
 refine .dk (fun u => gV x::gV y::sq u 0 4 (us 25)) K1 bel fun u1 w1 D bel => ?_
 obtain ⟨b2, E1_0, A_b2, B_b2⟩ := D.nw 0
 obtain ⟨b3, E1_1, A_b3, B_b3⟩ := D.nw 1
 obtain ⟨b4, E1_2, A_b4, B_b4⟩ := D.nw 2
 have E1_3 := D.q 3
 have N_b2_b4 := D.n2 0 2 E1_0 E1_2
 have N_b3_b4 := D.n2 1 2 E1_1 E1_2
 clear D
 refine wp_seq_k fun _ K5 => ?_
 refine gs 8 (Amb Z0 W) fun _ K6 => ?_
 refine .lr rfl 2 E1_0 B_b2 ?_
 refine .cK rfl (V := .bool true) Tryz.func28 (fun H => ⟨_, ar1 (H.g 9 0), reV (congrArg Value.bool p0) (hWhole (rg x))⟩) ?_
 refine .e rfl (V := .bool false) (fun H => x_not (H.g 10 1)) ?_
 refine .mv rfl 2 ?_
 refine .lr rfl 3 E1_1 B_b3 ?_ (hg := gq 3 rfl)
 refine .cK rfl (V := .bool true) Tryz.func28 (fun H => ⟨_, ar1 (H.g 13 4), reV (congrArg Value.bool p1) (hWhole (rg y))⟩) ?_ (hg := gq 3 rfl)
 refine .e rfl (V := .bool false) (fun H => x_not (H.g 14 5)) ?_ (hg := gq 3 rfl)
 refine .e rfl (fun H => x_pkF (H.g 12 3) (H.g 15 6)) ?_
 refine .dk (fun u => gV x::gV y::sq u1 0 4 (U::U::U::sq u 0 8 (us 14))) K6 bel fun u2 w2 D bel => ?_
 have E2_7 := D.q 7
 replace B_b2 := D.k B_b2
 replace B_b3 := D.k B_b3
 replace B_b4 := D.k B_b4
 clear D
 refine wp_cond_false (by exact E2_7) ?_
 refine wp_skip ?_
 refine K5 _ _ ?_
 refine gd 15 (Amb Z0 W) fun _ K7 => ?_
 refine .lr rfl 2 E1_0 B_b2 ?_
 refine .cR rfl [] Tryz.func57 (fun H => ⟨_, ar1 (H.g 19 0), xOf _ (by first | omega | exact p2 | exact p3)⟩) ?_
 refine .lr rfl 3 E1_1 B_b3 ?_
 refine .cR rfl [] Tryz.func57 (fun H => ⟨_, ar1 (H.g 21 2), xOf _ (by first | omega | exact p2 | exact p3)⟩) ?_
 refine .cR rfl [1, 3] Tryz.func71 (fun H => ⟨_, ar2 (H.r 20 1) (H.r 22 3), hCombine _ _ (N := N) (r := r) (SV.sub [1, 3] (H.a 1 rfl) rfl) (SV.sub [1, 3] (H.a 3 rfl) rfl) (by first | omega | exact p2 | exact p3)⟩) ?_
 refine .mn rfl 4 [1, 3, 4] ?_
 refine Go2.fn (i := 6) rfl (G0 rfl) (.val 6 [1, 3, 4, 5] (CxP (r.1.mul (unitC (firstC r.1).toNat)))) (fun u μ ρ H => by have e18 := H.r 18 5; have h0 := (H.a 5 rfl); obtain ⟨x0, x1, x2, h1, h2⟩ := h0; rw [h1] at e18; exact ⟨x0, by clear H; go_simp, SP.tupKeep (by decide) (by decide) h2.1⟩) ?_
 refine Go2.fn (i := 7) rfl (G0 rfl) (.val 7 [1, 3, 4, 5] (CxP (r.2.1.mul (unitC (firstC r.1).toNat)))) (fun u μ ρ H => by have e18 := H.r 18 5; have h0 := (H.a 5 rfl); obtain ⟨x0, x1, x2, h1, h2⟩ := h0; rw [h1] at e18; exact ⟨x1, by clear H; go_simp, SP.tupKeep (by decide) (by decide) h2.2.1⟩) ?_
 refine Go2.fn (i := 8) rfl (G0 rfl) (.val 8 [1, 3, 4, 5] (CxP (r.2.2.mul (unitC (firstC r.1).toNat)))) (fun u μ ρ H => by have e18 := H.r 18 5; have h0 := (H.a 5 rfl); obtain ⟨x0, x1, x2, h1, h2⟩ := h0; rw [h1] at e18; exact ⟨x2, by clear H; go_simp, SP.tupKeep (by decide) (by decide) h2.2.2⟩) ?_
 refine .al rfl (#[.pointer none, .pointer none]) ?_
 refine .al rfl (#[.pointer none, .pointer none]) ?_
 refine .al rfl (#[.pointer none, .pointer none]) ?_
 refine Go2.storeOwn (i := 12) (m := 9) rfl rfl (.tail _ (.tail _ (.head _))) (SP.cells 9 [6] (fun u => #[((u 6).v.cells.getD 0 undef), ((u 6).v.cells.getD 1 undef)]) 81 (by intro u u' h; simp [h 6 (by simp)])) (fun u μ ρ b H h0 hB hb => ?_) ?_
 · have e6 := H.r 6 9; have e24 := H.r 24 6
   rw [h0] at e6
   obtain ⟨x1, x2, h1, h2, h3⟩ := (H.a 6 rfl)
   have o1 := VP1.rat h2
   have o2 := VP1.rat h3
   rw [h1] at e24
   refine ⟨μ.setRow b #[x1, x2], ex_store_row 81 _ _ rfl e6 e24 hb (by kernel_rfl) rfl (by simp [o1, o2]), fun g => ⟨b, ?_, hB, ?_⟩, setRow_only _ _ _⟩
   · rw [upd_other _ _ (by decide)]; exact h0
   · rw [setRow_at hb]; try simp [upd, h1, Value.cells]
 refine Go2.storeOwn (i := 13) (m := 10) rfl rfl (.tail _ (.tail _ (.head _))) (SP.cells 10 [7] (fun u => #[((u 7).v.cells.getD 0 undef), ((u 7).v.cells.getD 1 undef)]) 81 (by intro u u' h; simp [h 7 (by simp)])) (fun u μ ρ b H h0 hB hb => ?_) ?_
 · have e7 := H.r 7 10; have e25 := H.r 25 7
   rw [h0] at e7
   obtain ⟨x1, x2, h1, h2, h3⟩ := (H.a 7 rfl)
   have o1 := VP1.rat h2
   have o2 := VP1.rat h3
   rw [h1] at e25
   refine ⟨μ.setRow b #[x1, x2], ex_store_row 81 _ _ rfl e7 e25 hb (by kernel_rfl) rfl (by simp [o1, o2]), fun g => ⟨b, ?_, hB, ?_⟩, setRow_only _ _ _⟩
   · rw [upd_other _ _ (by decide)]; exact h0
   · rw [setRow_at hb]; try simp [upd, h1, Value.cells]
 refine Go2.storeOwn (i := 14) (m := 11) rfl rfl (.tail _ (.tail _ (.head _))) (SP.cells 11 [8] (fun u => #[((u 8).v.cells.getD 0 undef), ((u 8).v.cells.getD 1 undef)]) 81 (by intro u u' h; simp [h 8 (by simp)])) (fun u μ ρ b H h0 hB hb => ?_) ?_
 · have e8 := H.r 8 11; have e26 := H.r 26 8
   rw [h0] at e8
   obtain ⟨x1, x2, h1, h2, h3⟩ := (H.a 8 rfl)
   have o1 := VP1.rat h2
   have o2 := VP1.rat h3
   rw [h1] at e26
   refine ⟨μ.setRow b #[x1, x2], ex_store_row 81 _ _ rfl e8 e26 hb (by kernel_rfl) rfl (by simp [o1, o2]), fun g => ⟨b, ?_, hB, ?_⟩, setRow_only _ _ _⟩
   · rw [upd_other _ _ (by decide)]; exact h0
   · rw [setRow_at hb]; try simp [upd, h1, Value.cells]
 refine .dk (fun u => gV x::gV y::sq u1 0 4 (sq u 9 3 (sq u2 0 8 (U::u 5::sq u 0 5 (sq u 6 3 (us 4)))))) K7 bel fun u3 w3 D bel => ?_
 obtain ⟨b8, b9, E3_6, L_b8, L_b9, F_b8, F_b9⟩ := CxP.elim (D.rr 6)
 obtain ⟨b10, E3_9, A_b10, B_b10⟩ := (D.a 12 rfl)
 replace A_b10 := le2 D.le A_b10
 have N_b4_b10 := D.n1 9 (lt_of B_b4) E3_9
 replace B_b4 := D.k B_b4
 simp only [Value.cells, E3_6, E3_9] at B_b10
 replace B_b10 : w3.heap[b10]? = some (.cells #[pt b8, pt b9] 81 (0, 0)) := B_b10
 clear D
 refine gs1 6 (Amb Z0 W) 4 B_b4 fun _ K11 => ?_
 refine .e rfl (fun H => x_ldr (H.z 6 E3_9) (H.b1 B_b10 N_b4_b10)) ?_
 refine .cK rfl Tryz.func55 (fun H => ⟨_, ar1 (H.g 27 0), xGaussOk _ (CxP.mk (VP.any _ (H.was _ [] (VP.at F_b8 L_b8))) (VP.any _ (H.was _ [] (VP.at F_b9 L_b9)))) (by first | omega | exact p2 | exact p3) (by first | omega | exact p2 | exact p3)⟩) ?_
 refine .e rfl (V := gV (r.1.mul (unitC (firstC r.1).toNat))) (fun H => x_ex (H.g 28 1)) ?_
 refine .e rfl (V := .int .i64 0) (fun H => x_ex (H.g 28 1)) ?_
 refine .s1 rfl B_b4 (fun H => ⟨H.z 4 E1_2, H.g 29 2⟩) ?_
 refine .mv rfl 3 ?_
 refine .d1 (fun u => gV x::gV y::sq u1 0 3 (u 5::sq u3 9 3 (sq u2 0 8 (U::u3 5::sq u3 0 5 (sq u3 6 3 (sq u 0 4 [])))))) K11 bel A_b4 fun u4 w4 D bel => ?_
 have E4_5 := D.q 5
 replace B_b4 := D.ol 4
 clear D
 refine wp_ret ?_
 refine ret_ok rfl (by exact results_mix rfl (by exact E1_2) B_b4 Tryz.underlying30 rfl (by kernel_rfl) (by exact E4_5)) (RetV.mk ?_ bel)
 exact congrArg Ending.returned (rfl)
end Go.Proofs.YtllohoibifcmdaaGreat
namespace Go.Proofs.YtllohoibifcmdaaGreat
open Go.RowKit Rgn
set_option maxHeartbeats 4000000
set_option maxRecDepth 100000
variable {S : Nat → Prop} {W : World}
theorem lKnown :
  Calls Tryz.prog 9 #[] W (RetV (.bool true) W) := by
 have bel := b0 W
 go_enter Tryz.func9, Tryz.ntmps9
 refine gs 1 (Amb Z0 W) fun _ K1 => ?_
 refine .mc rfl ?_
 refine .dk (fun u => u 0::us 53) K1 bel fun u1 w1 D bel => ?_
 have E1_0 := D.q 0
 clear D
 refine gs 12 (Amb Z0 W) fun _ K2 => ?_
 refine .cK rfl Tryz.func10 (fun H => ⟨_, ar2 (H.c (.int .i64 5)) (H.c (.int .i64 3)), lWhole _ _ (by first | omega | exact gwhole_int (by decide) | exact gfits_ht (by decide +kernel) | decide +kernel) (by first | omega | exact gwhole_int (by decide) | exact gfits_ht (by decide +kernel) | decide +kernel) (by first | omega | exact gwhole_int (by decide) | exact gfits_ht (by decide +kernel) | decide +kernel) (by first | omega | exact gwhole_int (by decide) | exact gfits_ht (by decide +kernel) | decide +kernel)⟩) ?_
 refine .cK rfl Tryz.func10 (fun H => ⟨_, ar2 (H.c (.int .i64 2)) (H.c (.int .i64 0)), lWhole _ _ (by first | omega | exact gwhole_int (by decide) | exact gfits_ht (by decide +kernel) | decide +kernel) (by first | omega | exact gwhole_int (by decide) | exact gfits_ht (by decide +kernel) | decide +kernel) (by first | omega | exact gwhole_int (by decide) | exact gfits_ht (by decide +kernel) | decide +kernel) (by first | omega | exact gwhole_int (by decide) | exact gfits_ht (by decide +kernel) | decide +kernel)⟩) ?_
 refine .cK rfl Tryz.func23 (fun H => ⟨_, ar2 (H.g 10 0) (H.g 11 1), hDivC _ _ (by first | omega | exact gwhole_int (by decide) | exact gfits_ht (by decide +kernel) | decide +kernel) (by first | omega | exact gwhole_int (by decide) | exact gfits_ht (by decide +kernel) | decide +kernel) (by first | omega | exact gwhole_int (by decide) | exact gfits_ht (by decide +kernel) | decide +kernel) (by first | omega | exact gwhole_int (by decide) | exact gfits_ht (by decide +kernel) | decide +kernel) (by first | omega | exact gwhole_int (by decide) | exact gfits_ht (by decide +kernel) | decide +kernel) (by first | omega | exact gwhole_int (by decide) | exact gfits_ht (by decide +kernel) | decide +kernel)⟩) ?_
 refine .mv rfl 2 ?_
 refine .e rfl (V := gV (((Cx.ofInt (5 : Int) (3 : Int)).div (Cx.ofInt (2 : Int) (0 : Int))).near)) (fun H => x_ex (H.g 9 3)) ?_
 refine .e rfl (V := gV ((Cx.ofInt (5 : Int) (3 : Int)).sub (((Cx.ofInt (5 : Int) (3 : Int)).div (Cx.ofInt (2 : Int) (0 : Int))).near.mul (Cx.ofInt (2 : Int) (0 : Int))))) (fun H => x_ex (H.g 9 3)) ?_
 refine .e rfl (V := .int .i64 0) (fun H => x_ex (H.g 9 3)) ?_
 refine .al rfl zG ?_
 refine .al rfl zG ?_
 refine .so rfl 7 (fun H => ⟨H.r 1 7, H.g 13 4⟩) ?_
 refine .so rfl 8 (fun H => ⟨H.r 2 8, H.g 14 5⟩) ?_
 refine .mv rfl 6 ?_
 refine .dk (fun u => u1 0::u 7::u 8::u 11::U::U::U::U::U::u 3::sq u 0 3 (sq u 4 3 (us 38))) K2 bel fun u2 w2 D bel => ?_
 obtain ⟨b3, E2_7, A_b3, B_b3⟩ := D.st 9
 obtain ⟨b4, E2_8, A_b4, B_b4⟩ := D.st 10
 have E2_11 := D.q 11
 clear D
 refine gs 9 (Amb Z0 W) fun _ K5 => ?_
 refine .cK rfl Tryz.func10 (fun H => ⟨_, ar2 (H.c (.int .i64 6)) (H.c (.int .i64 0)), lWhole _ _ (by first | omega | exact gwhole_int (by decide) | exact gfits_ht (by decide +kernel) | decide +kernel) (by first | omega | exact gwhole_int (by decide) | exact gfits_ht (by decide +kernel) | decide +kernel) (by first | omega | exact gwhole_int (by decide) | exact gfits_ht (by decide +kernel) | decide +kernel) (by first | omega | exact gwhole_int (by decide) | exact gfits_ht (by decide +kernel) | decide +kernel)⟩) ?_
 refine .cK rfl Tryz.func10 (fun H => ⟨_, ar2 (H.c (.int .i64 4)) (H.c (.int .i64 2)), lWhole _ _ (by first | omega | exact gwhole_int (by decide) | exact gfits_ht (by decide +kernel) | decide +kernel) (by first | omega | exact gwhole_int (by decide) | exact gfits_ht (by decide +kernel) | decide +kernel) (by first | omega | exact gwhole_int (by decide) | exact gfits_ht (by decide +kernel) | decide +kernel) (by first | omega | exact gwhole_int (by decide) | exact gfits_ht (by decide +kernel) | decide +kernel)⟩) ?_
 refine .cK rfl Tryz.func24 (fun H => ⟨_, ar2 (H.g 17 0) (H.g 18 1), hGcdC _ _ (N := 3) (r := (Cx.ofInt (0 : Int) (2 : Int), Cx.ofInt (1 : Int) (0 : Int), Cx.ofInt (-1 : Int) (1 : Int))) (by first | omega | exact gwhole_int (by decide) | exact gfits_ht (by decide +kernel) | decide +kernel) (by first | omega | exact gwhole_int (by decide) | exact gfits_ht (by decide +kernel) | decide +kernel) (by first | omega | exact gwhole_int (by decide) | exact gfits_ht (by decide +kernel) | decide +kernel) (by first | omega | exact gwhole_int (by decide) | exact gfits_ht (by decide +kernel) | decide +kernel)⟩) ?_
 refine .mv rfl 2 ?_
 refine .e rfl (V := gV ((Cx.ofInt (0 : Int) (2 : Int), Cx.ofInt (1 : Int) (0 : Int), Cx.ofInt (-1 : Int) (1 : Int)).1.mul (unitC (firstC (Cx.ofInt (0 : Int) (2 : Int), Cx.ofInt (1 : Int) (0 : Int), Cx.ofInt (-1 : Int) (1 : Int)).1).toNat))) (fun H => x_ex (H.g 16 3)) ?_
 refine .e rfl (V := .int .i64 0) (fun H => x_ex (H.g 16 3)) ?_
 refine .al rfl zG ?_
 refine .so rfl 6 (fun H => ⟨H.r 4 6, H.g 20 4⟩) ?_
 refine .mv rfl 5 ?_
 refine .dk (fun u => u1 0::u2 7::u2 8::u2 11::u 6::u 8::U::U::U::u2 3::sq u2 0 3 (sq u2 4 3 (u 3::sq u 0 3 (u 4::u 5::us 32)))) K5 bel fun u3 w3 D bel => ?_
 obtain ⟨b6, E3_6, A_b6, B_b6⟩ := D.st 7
 have E3_8 := D.q 8
 replace B_b3 := D.k B_b3
 replace B_b4 := D.k B_b4
 clear D
 refine gs 12 (Amb Z0 W) fun _ K7 => ?_
 refine .cK rfl Tryz.func10 (fun H => ⟨_, ar2 (H.c (.int .i64 1)) (H.c (.int .i64 0)), lWhole _ _ (by first | omega | exact gwhole_int (by decide) | exact gfits_ht (by decide +kernel) | decide +kernel) (by first | omega | exact gwhole_int (by decide) | exact gfits_ht (by decide +kernel) | decide +kernel) (by first | omega | exact gwhole_int (by decide) | exact gfits_ht (by decide +kernel) | decide +kernel) (by first | omega | exact gwhole_int (by decide) | exact gfits_ht (by decide +kernel) | decide +kernel)⟩) ?_
 refine .cK rfl Tryz.func10 (fun H => ⟨_, ar2 (H.c (.int .i64 0)) (H.c (.int .i64 0)), lWhole _ _ (by first | omega | exact gwhole_int (by decide) | exact gfits_ht (by decide +kernel) | decide +kernel) (by first | omega | exact gwhole_int (by decide) | exact gfits_ht (by decide +kernel) | decide +kernel) (by first | omega | exact gwhole_int (by decide) | exact gfits_ht (by decide +kernel) | decide +kernel) (by first | omega | exact gwhole_int (by decide) | exact gfits_ht (by decide +kernel) | decide +kernel)⟩) ?_
 refine .cK rfl Tryz.func23 (fun H => ⟨_, ar2 (H.g 23 0) (H.g 24 1), hDivB _ _ (by first | omega | exact gwhole_int (by decide) | exact gfits_ht (by decide +kernel) | decide +kernel) (by first | omega | exact gwhole_int (by decide) | exact gfits_ht (by decide +kernel) | decide +kernel) (by first | omega | exact gwhole_int (by decide) | exact gfits_ht (by decide +kernel) | decide +kernel)⟩) ?_
 refine .mv rfl 2 ?_
 refine .e rfl (V := .agg zG) (fun H => x_ex (H.g 22 3)) ?_
 refine .e rfl (V := .agg zG) (fun H => x_ex (H.g 22 3)) ?_
 refine .e rfl (V := .int .i64 5) (fun H => x_ex (H.g 22 3)) ?_
 refine .al rfl zG ?_
 refine .al rfl zG ?_
 refine .so rfl 7 (fun H => ⟨H.r 6 7, H.g 26 4⟩) ?_
 refine .so rfl 8 (fun H => ⟨H.r 7 8, H.g 27 5⟩) ?_
 refine .mv rfl 6 ?_
 refine .dk (fun u => u1 0::u2 7::u2 8::u2 11::u3 6::u3 8::u 7::u 8::u 11::u2 3::sq u2 0 3 (sq u2 4 3 (u3 3::sq u3 0 3 (u3 4::u3 5::u 3::sq u 0 3 (sq u 4 3 (us 25)))))) K7 bel fun u4 w4 D bel => ?_
 have E4_11 := D.q 11
 replace B_b3 := D.k B_b3
 replace B_b4 := D.k B_b4
 replace B_b6 := D.k B_b6
 clear D
 refine gd 26 (Amb Z0 W) fun _ K8 => ?_
 refine .lr rfl 1 E2_7 B_b3 ?_
 refine .cK rfl Tryz.func10 (fun H => ⟨_, ar2 (H.c (.int .i64 2)) (H.c (.int .i64 2)), lWhole _ _ (by first | omega | exact gwhole_int (by decide) | exact gfits_ht (by decide +kernel) | decide +kernel) (by first | omega | exact gwhole_int (by decide) | exact gfits_ht (by decide +kernel) | decide +kernel) (by first | omega | exact gwhole_int (by decide) | exact gfits_ht (by decide +kernel) | decide +kernel) (by first | omega | exact gwhole_int (by decide) | exact gfits_ht (by decide +kernel) | decide +kernel)⟩) ?_
 refine .e rfl (V := .bool ((decide (((Cx.ofInt (5 : Int) (3 : Int)).div (Cx.ofInt (2 : Int) (0 : Int))).near = Cx.ofInt (2 : Int) (2 : Int))))) (fun H => ex_eql_gauss (r := rg (((Cx.ofInt (5 : Int) (3 : Int)).div (Cx.ofInt (2 : Int) (0 : Int))).near)) (q := rg (Cx.ofInt (2 : Int) (2 : Int))) _ _ rfl (H.g 29 0) (H.g 30 1) (rg_dec (((Cx.ofInt (5 : Int) (3 : Int)).div (Cx.ofInt (2 : Int) (0 : Int))).near) (Cx.ofInt (2 : Int) (2 : Int)))) ?_
 refine .e rfl (V := .bool true) (fun H => by have e31 := H.g 31 2; have k_ := (show ((decide (((Cx.ofInt (5 : Int) (3 : Int)).div (Cx.ofInt (2 : Int) (0 : Int))).near = Cx.ofInt (2 : Int) (2 : Int)))) = true from by decide +kernel); clear H; go_simp <;> first | (simp_all; done) | omega | exact len_gt z0_) ?_
 refine .lr rfl 2 E2_8 B_b4 ?_ (hg := gq 3 rfl)
 refine .cK rfl Tryz.func10 (fun H => ⟨_, ar2 (H.c (.int .i64 1)) (H.c (.int .i64 (-1))), lWhole _ _ (by first | omega | exact gwhole_int (by decide) | exact gfits_ht (by decide +kernel) | decide +kernel) (by first | omega | exact gwhole_int (by decide) | exact gfits_ht (by decide +kernel) | decide +kernel) (by first | omega | exact gwhole_int (by decide) | exact gfits_ht (by decide +kernel) | decide +kernel) (by first | omega | exact gwhole_int (by decide) | exact gfits_ht (by decide +kernel) | decide +kernel)⟩) ?_ (hg := gq 3 rfl)
 refine .e rfl (V := .bool ((decide ((Cx.ofInt (5 : Int) (3 : Int)).sub (((Cx.ofInt (5 : Int) (3 : Int)).div (Cx.ofInt (2 : Int) (0 : Int))).near.mul (Cx.ofInt (2 : Int) (0 : Int))) = Cx.ofInt (1 : Int) (-1 : Int))))) (fun H => ex_eql_gauss (r := rg ((Cx.ofInt (5 : Int) (3 : Int)).sub (((Cx.ofInt (5 : Int) (3 : Int)).div (Cx.ofInt (2 : Int) (0 : Int))).near.mul (Cx.ofInt (2 : Int) (0 : Int))))) (q := rg (Cx.ofInt (1 : Int) (-1 : Int))) _ _ rfl (H.g 33 4) (H.g 34 5) (rg_dec ((Cx.ofInt (5 : Int) (3 : Int)).sub (((Cx.ofInt (5 : Int) (3 : Int)).div (Cx.ofInt (2 : Int) (0 : Int))).near.mul (Cx.ofInt (2 : Int) (0 : Int)))) (Cx.ofInt (1 : Int) (-1 : Int)))) ?_ (hg := gq 3 rfl)
 refine .e rfl (V := .bool true) (fun H => by have e32 := H.g 32 3; have e35 := H.g 35 6; have k_ := (show ((decide ((Cx.ofInt (5 : Int) (3 : Int)).sub (((Cx.ofInt (5 : Int) (3 : Int)).div (Cx.ofInt (2 : Int) (0 : Int))).near.mul (Cx.ofInt (2 : Int) (0 : Int))) = Cx.ofInt (1 : Int) (-1 : Int)))) = true from by decide +kernel); clear H; go_simp <;> first | (simp_all; done) | omega | exact len_gt z0_) ?_
 refine .mv rfl 7 ?_
 refine .mz rfl 3 E2_11 ?_ (hg := gq 8 rfl)
 refine .e rfl (V := .bool true) (fun H => x_cmp (H.g 38 9) (H.c _)) ?_ (hg := gq 8 rfl)
 refine .e rfl (fun H => x_pkT (H.g 37 8) (H.g 39 10)) ?_
 refine .mv rfl 11 ?_
 refine .lr rfl 4 E3_6 B_b6 ?_ (hg := gq 12 rfl)
 refine .cK rfl Tryz.func10 (fun H => ⟨_, ar2 (H.c (.int .i64 2)) (H.c (.int .i64 0)), lWhole _ _ (by first | omega | exact gwhole_int (by decide) | exact gfits_ht (by decide +kernel) | decide +kernel) (by first | omega | exact gwhole_int (by decide) | exact gfits_ht (by decide +kernel) | decide +kernel) (by first | omega | exact gwhole_int (by decide) | exact gfits_ht (by decide +kernel) | decide +kernel) (by first | omega | exact gwhole_int (by decide) | exact gfits_ht (by decide +kernel) | decide +kernel)⟩) ?_ (hg := gq 12 rfl)
 refine .e rfl (V := .bool ((decide ((Cx.ofInt (0 : Int) (2 : Int), Cx.ofInt (1 : Int) (0 : Int), Cx.ofInt (-1 : Int) (1 : Int)).1.mul (unitC (firstC (Cx.ofInt (0 : Int) (2 : Int), Cx.ofInt (1 : Int) (0 : Int), Cx.ofInt (-1 : Int) (1 : Int)).1).toNat) = Cx.ofInt (2 : Int) (0 : Int))))) (fun H => ex_eql_gauss (r := rg ((Cx.ofInt (0 : Int) (2 : Int), Cx.ofInt (1 : Int) (0 : Int), Cx.ofInt (-1 : Int) (1 : Int)).1.mul (unitC (firstC (Cx.ofInt (0 : Int) (2 : Int), Cx.ofInt (1 : Int) (0 : Int), Cx.ofInt (-1 : Int) (1 : Int)).1).toNat))) (q := rg (Cx.ofInt (2 : Int) (0 : Int))) _ _ rfl (H.g 42 13) (H.g 43 14) (rg_dec ((Cx.ofInt (0 : Int) (2 : Int), Cx.ofInt (1 : Int) (0 : Int), Cx.ofInt (-1 : Int) (1 : Int)).1.mul (unitC (firstC (Cx.ofInt (0 : Int) (2 : Int), Cx.ofInt (1 : Int) (0 : Int), Cx.ofInt (-1 : Int) (1 : Int)).1).toNat)) (Cx.ofInt (2 : Int) (0 : Int)))) ?_ (hg := gq 12 rfl)
 refine .e rfl (V := .bool true) (fun H => by have e41 := H.g 41 12; have e44 := H.g 44 15; have k_ := (show ((decide ((Cx.ofInt (0 : Int) (2 : Int), Cx.ofInt (1 : Int) (0 : Int), Cx.ofInt (-1 : Int) (1 : Int)).1.mul (unitC (firstC (Cx.ofInt (0 : Int) (2 : Int), Cx.ofInt (1 : Int) (0 : Int), Cx.ofInt (-1 : Int) (1 : Int)).1).toNat) = Cx.ofInt (2 : Int) (0 : Int)))) = true from by decide +kernel); clear H; go_simp <;> first | (simp_all; done) | omega | exact len_gt z0_) ?_
 refine .mv rfl 16 ?_
 refine .mz rfl 5 E3_8 ?_ (hg := gq 17 rfl)
 refine .e rfl (V := .bool true) (fun H => x_cmp (H.g 47 18) (H.c _)) ?_ (hg := gq 17 rfl)
 refine .e rfl (fun H => x_pkT (H.g 46 17) (H.g 48 19)) ?_
 refine .mv rfl 20 ?_
 refine .mz rfl 8 E4_11 ?_ (hg := gq 21 rfl)
 refine .e rfl (V := .bool true) (fun H => x_cmp (H.g 51 22) (H.c _)) ?_ (hg := gq 21 rfl)
 refine .e rfl (fun H => x_pkT (H.g 50 21) (H.g 52 23)) ?_
 refine .mv rfl 24 ?_
 refine .dk (fun u => u 25::u2 7::u2 8::u2 11::u3 6::u3 8::u4 7::u4 8::u4 11::u2 3::sq u2 0 3 (sq u2 4 3 (u3 3::sq u3 0 3 (u3 4::u3 5::u4 3::sq u4 0 3 (sq u4 4 3 (sq u 0 25 [])))))) K8 bel fun u5 w5 D bel => ?_
 have E5_25 := D.q 25
 clear D
 exact wp_ret (rt rfl E5_25 rfl bel)
end Go.Proofs.YtllohoibifcmdaaGreat
namespace Go.Proofs.YtllohoibifcmdaaGreat.Rgn
open Go.RowKit
def Rd (l : Nat) : Fence := Fence.wide.inRound l
theorem calls_rd {P : Program} {f : FuncId} {args : Array Value} {w : World} {R : Ending → World → Prop} (l n : Nat) (h : Calls P f args w R) : CallsIn (Rd l) n P f args w R := CallsIn.inRound l (callsIn_wide.2 h)
variable {P : Program} {ops : Array Oper} {Q : Exit → Act → World → Prop} {l n : Nat}
theorem rows_rd {row : String} {args : Array Value} {w : World} {R : Value → World → Prop} (h : Rows P row args w R) : RowsIn (Rd l) n P row args w R :=
  fun c cs _ => let ⟨v, w', r, s⟩ := h c cs; ⟨v, w', r, stepsIn_wide.2 s⟩
theorem upon_rd {o : Oper} {a : Act} {K : Act → World → Prop} {r : Result Next} (h : o.upon P a K Q r) : o.uponIn (Rd l) n P a K Q r := by
  cases r with
  | ok x w' =>
    cases x <;> simp only [Oper.upon, Oper.uponIn] at h ⊢ <;> first
      | exact h
      | exact ⟨fun h0 => by simp [Rd, Fence.wide] at h0, calls_rd l _ h⟩
      | exact ⟨fun h0 => by simp [Rd, Fence.wide] at h0, rows_rd h⟩
  | halt x w' => cases x <;> simp only [Oper.upon, Oper.uponIn] at h ⊢ <;> exact h
def noDef (o : Oper) : Bool := match o.op with | .defer _ => false | _ => true
theorem op_rd {o : Oper} {a : Act} {w : World} {K : Act → World → Prop} (hd : noDef o = true) (h : o.wp P a w K Q) : o.wpIn (Rd l) n P a w K Q := by
  refine ⟨fun _ _ => trivial, ?_⟩
  have e : o.semAt (Rd l).round a.eval = execOp a.eval o := Oper.semAt_some l a.eval o (fun c hc => by unfold noDef at hd; rw [hc] at hd; cases hd)
  rw [e]
  exact upon_rd h
theorem wpOp_rd (hq : ¬ LetsOut Q) (hd : ops.all noDef = true) {i : Nat} {a : Act} {w : World} {K : Act → World → Prop} (h : wpOp P ops Q i K a w) : wpOpIn (Rd l) n P ops Q i K a w := by
  unfold wpOp at h
  unfold wpOpIn
  cases ho : ops[i]? with
  | none => rw [ho] at h; exact h
  | some o =>
    rw [ho] at h
    simp only [] at h ⊢
    have hd' : noDef o = true := by
      rw [Array.all_eq_true] at hd
      obtain ⟨hlt, he⟩ := Array.getElem?_eq_some_iff.1 ho
      rw [← he]; exact hd i hlt
    split
    · rename_i hw
      rw [if_pos hw] at h
      rcases h with h | h
      · exact op_rd hd' h
      · exact absurd h.2 hq
    · rename_i hw; rw [if_neg hw] at h; exact ⟨fun _ _ => trivial, h⟩
theorem wpAny_rd (hq : ¬ LetsOut Q) (hd : ops.all noDef = true) {md : Region.Mode} : ∀ (fuel : Nat) (listed : Array Bool) (a : Act) (w : World), wpAny P md ops Q fuel listed a w → wpAnyIn (Rd l) n P md ops Q fuel listed a w := by
  intro fuel
  induction fuel with
  | zero => intro listed a w h; exact h
  | succ fuel ih => intro listed a w h; exact ⟨h.1, fun i hi => wpOpIn_mono (fun a w hk => ih _ a w hk) (wpOp_rd hq hd (h.2 i hi))⟩
theorem wpOps_rd (hq : ¬ LetsOut Q) (hd : ops.all noDef = true) : ∀ (is : List Nat) (a : Act) (w : World), wpOps P ops Q is a w → wpOpsIn (Rd l) n P ops Q is a w := by
  intro is
  induction is with
  | nil => intro a w h; exact h
  | cons i is ih =>
    intro a w h
    rw [wpOps_cons] at h
    rw [wpOpsIn_cons]
    exact wpOpIn_mono (fun a w hk => ih a w hk) (wpOp_rd hq hd h)
theorem regAny_rd {id : Nat} {a : Act} {w : World} (hq : ¬ LetsOut Q) (hm : P.follows .mixedOrders = true) (hd : ops.all noDef = true) (h : RegAny P ops Q a w) : (Code.region id ops true).wpIn (Rd l) n P Q a w :=
  wpIn_region_any hm (wpAny_rd hq hd _ _ _ _ h)
theorem regOps_rd {id : Nat} {a : Act} {w : World} (hq : ¬ LetsOut Q) (hd : ops.all noDef = true) (h : RegOps P ops Q a w) : (Code.region id ops false).wpIn (Rd l) n P Q a w :=
  wpIn_region (wpOps_rd hq hd _ _ _ h)
variable {a0 : Act} {w0 : World}
theorem go2_drawnI {id : Nat} (hq : ¬ LetsOut Q) (hm : P.follows .mixedOrders = true) (hd : ops.all noDef = true) (k : Nat) (hn : ops.size = k) (R0 : Nat → Prop) (olds : List (Nat × Nat)) (ws : List Nat) (ho : Olds w0 olds ws)
    (hin : inB ops a0 = true) (h : Go2 P ops a0 w0 (Todo P ops Q w0.heap.size R0 olds ws a0 w0 0) k 0 []) : (Code.region id ops true).wpIn (Rd l) n P Q a0 w0 := regAny_rd hq hm hd (go2_drawn0 k hn R0 olds ws ho hin h)
theorem go2_seqI {id : Nat} (hq : ¬ LetsOut Q) (hd : ops.all noDef = true) (k : Nat) (hn : ops.size = k) (R0 : Nat → Prop) (olds : List (Nat × Nat)) (ws : List Nat) (ho : Olds w0 olds ws)
    (hin : inB ops a0 = true) (h : Go2 P ops a0 w0 (Todo P ops Q w0.heap.size R0 olds ws a0 w0 0) k 0 []) : (Code.region id ops false).wpIn (Rd l) n P Q a0 w0 := regOps_rd hq hd (go2_seq0 k hn R0 olds ws ho hin h)
end Go.Proofs.YtllohoibifcmdaaGreat.Rgn
namespace Go.Proofs.YtllohoibifcmdaaGreat
open Go.RowKit Rgn Go.Shelf
attribute [local go_sem] Oper.semAt_some
def bwU {α : Type} (n : Nat) (el : Nat → α) (k : Nat) : List α := (List.range k).map fun t => el (n - 1 - t)
theorem bwU_succ {α : Type} (n : Nat) (el : Nat → α) (k : Nat) : bwU n el (k + 1) = bwU n el k ++ [el (n - 1 - k)] := by simp [bwU, List.range_succ]
theorem bwU_length {α : Type} (n : Nat) (el : Nat → α) (k : Nat) : (bwU n el k).length = k := by simp [bwU]
def KpB (n₀ Bs : Nat) (A B : World) : Prop := Below n₀ A B ∧ B.heap[Bs]? = A.heap[Bs]?
theorem kpB_t {n₀ Bs : Nat} {A B C : World} (h : KpB n₀ Bs A B) (k : KpB n₀ Bs B C) : KpB n₀ Bs A C := ⟨h.1.trans k.1, k.2.trans h.2⟩
theorem kpB_b {n₀ Bs : Nat} {w : World} (hn : n₀ ≤ w.heap.size) (hB : Bs < w.heap.size) (W : World) (l : Nat) (o o' : Obj) (hl : w.heap.size ≤ l) (h : W.heap[l]? = some o) (h1 : o.isCells = false) (h2 : o.isWalk = false) : KpB n₀ Bs W (W.putObj l o') :=
  ⟨belowK_b hn W l o o' hl h h1 h2, World.putObj_heap_other (by omega)⟩
set_option maxRecDepth 100000 in
set_option maxHeartbeats 2000000 in
theorem bw1_in {α : Type} (encs : α → Array Value) (el : Nat → α) (F : Fence) (n : Nat) (hF : F.fn 108) (hro : F.round = none) (hn : 1 ≤ n) (lp Bs n₀ b off cap : Nat) (l : List RG) (cur : Array Value) {T : TypeId} (fr : Nat × Nat) (hel : ∀ j, j < l.length → encs (el j) = #[.int .i64 (j : Int), rgV (l.getD j rg0)]) (hne : l.length ≠ 0) (hlen : l.length ≤ 1099511627776) (hcap : l.length ≤ cap) (hcap' : cap ≤ 9223372036854775807) (hb : b < n₀) (J Jx : List α → World → Prop)
    (hY : ∀ pre x W, J pre W → pre.length < l.length → YieldAt F (n - 1) Tryz.prog lp (encs x) W fun e W' =>
      (e = .returned (.bool true) ∧ J (pre ++ [x]) W' ∧ KpB n₀ Bs W W') ∨ (e = .returned (.bool false) ∧ Jx (pre ++ [x]) W'))
    (W : World) (hBs : W.heap[Bs]? = some (.cells #[.slice (some ⟨b, off, none⟩) l.length cap] 22 (0, 0))) (hB : W.heap[b]? = some (.cells cur T fr)) (hR : GRow cur off l) (h0 : J [] W) :
    CallsIn F n Tryz.prog 108 #[.func (.yield lp) #[] #[], .pointer (some ⟨Bs, 0, none⟩)] W fun e W' => (∃ v, e = .returned v) ∧
      ((∃ ys, ys = bwU l.length el l.length ∧ J ys W') ∨ (∃ pre, (∃ k, k ≤ l.length ∧ pre = bwU l.length el k) ∧ Jx pre W')) := by
  refine callsIn_of_wp Tryz.func108 rfl hF ?_ hro
  simp only [Tryz.ntmps108, List.size_toArray, List.length_cons, List.length_nil, Nat.reduceAdd, Nat.reduceSub, Array.replicate_succ, Array.replicate_zero, List.push_toArray, List.append_toArray, List.nil_append, List.cons_append]
  have hw1 : IntKind.i64.wrap ((l.length : Int) - 1) = (l.length : Int) - 1 := IntWalk.i64_in _ (by omega)
  have hBc : W.cell? ⟨Bs, 0, none⟩ = some (.slice (some ⟨b, off, none⟩) l.length cap) := cell_of (off := 0) hBs rfl
  gi_wp2
  gi_loopw [3] (fun i wr => ∃ k : Nat, k ≤ l.length ∧ i = .int .i64 ((l.length : Int) - 1 - k) ∧ J (bwU l.length el k) wr ∧ KpB n₀ Bs W wr) (fun i _ => ((intOf i) + 1).toNat)
  case atStart => exact ⟨0, Nat.zero_le _, by simp, h0, Below.refl _ _, rfl⟩
  case round =>
    obtain ⟨k, hk, rfl, hJs, hnx⟩ := hrel
    have hcb : wr.cell? ⟨Bs, 0, none⟩ = some (.slice (some ⟨b, off, none⟩) l.length cap) := cell_of (off := 0) (hnx.2.trans hBs) rfl
    have hbb : wr.heap[b]? = some (.cells cur T fr) := (hnx.1.block b hb).trans hB
    by_cases hlt : k < l.length
    · obtain ⟨fn, tmps, assign, body, hy, hRd⟩ := hY _ (el (l.length - 1 - k)) wr hJs (by rw [bwU_length]; exact hlt)
      rw [hel _ (by omega)] at hy
      obtain ⟨j, hj⟩ : ∃ j, j = l.length - 1 - k := ⟨_, rfl⟩
      have hjl : j < l.length := by omega
      have hjI : (l.length : Int) - 1 - (k : Int) = (j : Int) := by omega
      have hbs := bwU_succ l.length el k
      have hr : l[j]? = some (l.getD j rg0) := by rw [List.getD_eq_getElem?_getD, List.getElem?_eq_getElem hjl]; rfl
      rw [← hj] at hy hbs hRd
      have hc := fun c v (h : (rgc (l.getD j rg0))[c]? = some v) => show wr.cell? ⟨b, off + j * 8 + c, none⟩ = some v from by
        have := hR j _ hr c v h
        rw [Nat.mul_comm j 8]
        simp [World.cell?, hbb, this]
      have hc0 := hc 0 _ rfl
      have hc1 := hc 1 _ rfl
      have hc2 := hc 2 _ rfl
      have hc3 := hc 3 _ rfl
      have hc4 := hc 4 _ rfl
      have hc5 := hc 5 _ rfl
      have hc6 := hc 6 _ rfl
      have hc7 := hc 7 _ rfl
      rw [Nat.add_zero] at hc0
      clear hc hr
      generalize l.getD j rg0 = r at *
      rw [hjI]
      clear hjI
      have hjk : (j : Int) - 1 = (l.length : Int) - 1 - ((k + 1 : Nat) : Int) := by omega
      have hw2 : IntKind.i64.wrap ((j : Int) - 1) = (j : Int) - 1 := IntWalk.i64_in _ (by omega)
      clear hj
      gi_wp2
      refine hRd.mono ?_
      rintro e W3 (⟨rfl, hJ3, hk3⟩ | ⟨rfl, hJx3⟩)
      · gi_wp2
        go_roundw
        case rel => exact ⟨k + 1, by omega, by first | rfl | (congr 1; omega) | rw [hjk], by rw [hbs]; exact hJ3, kpB_t hnx hk3⟩
        case measure => simp [intOf]; omega
      · gi_wp2
        refine bodyPost_ret (results_none rfl _ _ _) rfl ?_
        exact ⟨⟨_, rfl⟩, .inr ⟨_, ⟨k + 1, by omega, hbs.symm⟩, hJx3⟩⟩
    · have hke : k = l.length := by omega
      subst hke
      have hjI : (l.length : Int) - 1 - (l.length : Int) = -1 := by omega
      rw [hjI]
      gi_wp2
      go_end0
      exact ⟨⟨_, rfl⟩, .inl ⟨_, rfl, hJs⟩⟩
set_option maxHeartbeats 1000000 in
theorem bw_in (p : Option Addr) (len cap : Nat) (w : World) :
    Calls Tryz.prog 52 #[.slice p len cap] w fun e w' => e = .returned (.func (.func 108) #[] #[.pointer (some ⟨w.heap.size, 0, none⟩)]) ∧ w' = w.alloc (.cells #[.slice p len cap] 22) := by
  go_enter Tryz.func52, Tryz.ntmps52
  go_wp2
  go_ret
  exact ⟨rfl, rfl⟩
theorem bw_stops {α : Type} (encs : α → Array Value) (el : Nat → α) (F : Fence) (n : Nat) (hF : F.fn 108) (hro : F.round = none) (hn : 1 ≤ n) (Bs n₀ b off cap : Nat) (l : List RG) (cur : Array Value) {T : TypeId} (fr : Nat × Nat) (hel : ∀ j, j < l.length → encs (el j) = #[.int .i64 (j : Int), rgV (l.getD j rg0)]) (hne : l.length ≠ 0) (hlen : l.length ≤ 1099511627776) (hcap : l.length ≤ cap) (hcap' : cap ≤ 9223372036854775807) (hb : b < n₀) (w : World) (hn₀ : n₀ ≤ w.heap.size)
    (hc : w.heap[Bs]? = some (.cells #[.slice (some ⟨b, off, none⟩) l.length cap] 22 (0, 0))) (hB : w.heap[b]? = some (.cells cur T fr)) (hR : GRow cur off l) :
    SeqStopsK F n Tryz.prog 108 #[.pointer (some ⟨Bs, 0, none⟩)] encs (KpB n₀ Bs) (fun ys => ys = bwU l.length el l.length) (fun pre => ∃ k, k ≤ l.length ∧ pre = bwU l.length el k) l.length w := fun lp J Jx W hW _ _ hY h0 => by
  have hc' := (hW.block Bs (lt_of hc)).trans hc
  have hB' := (hW.block b (by omega)).trans hB
  exact bw1_in encs el F n hF hro hn lp Bs n₀ b off cap l cur fr hel hne hlen hcap hcap' hb J Jx hY W hc' hB' hR h0
theorem wpT_bw {ops : Array Oper} {Q : Exit → Act → World → Prop} {o : Oper} {rest : List Oper} {a : Act} {w : World} {p : Option Addr} {n c : Nat} (hg : o.guard = none) (hr : (execOp a.eval o).run Tryz.prog w = .ok (.enter 52 #[.slice p n c]) w)
    (h : ∀ (b : Nat) (w' : World), w.heap.size ≤ b → w'.heap[b]? = some (.cells #[.slice p n c] 22 (0, 0)) → RowKit.Below w.heap.size w w' → wpList Tryz.prog ops Q rest (a.put o.dst (.func (.func 108) #[] #[.pointer (some ⟨b, 0, none⟩)])) w') : wpList Tryz.prog ops Q (o :: rest) a w := by
  refine wpList_plain hg fun K hK => ?_
  simp only [Oper.wp, hr, Oper.upon]
  refine (bw_in p n c w).mono fun e w' ⟨he, hw⟩ => ?_
  subst he; subst hw
  exact hK _ _ (h _ _ (Nat.le_refl _) (MapKept.heap_alloc w _).1 (Below.alloc (Below.refl _ _) (Nat.le_refl _) _))
end Go.Proofs.YtllohoibifcmdaaGreat
namespace Go.Proofs.YtllohoibifcmdaaGreat
open Go.RowKit Rgn
theorem fits_ht_le {q : Rat} (h : fits (rf q) = true) : ht q ≤ 8200 := by
  unfold fits at h
  rw [Bool.and_eq_true, decide_eq_true_eq, decide_eq_true_eq] at h
  have h1 := hi_bytes q.num
  have h2 := hi_bytes (q.den : Int)
  have h3 : (rw q.num).s.size ≤ 1024 := h.1
  have h4 : (rw (q.den : Int)).s.size ≤ 1024 := h.2
  have h5 : hi (q.den : Int) = bl q.den + 1 := by unfold hi; rw [Int.natAbs_natCast]
  have h6 : hi q.num = bl q.num.natAbs + 1 := rfl
  have h7 : ht q = max (bl q.num.natAbs) (bl q.den) + 1 := rfl
  omega
theorem gerr_ht {z : Cx} (h : ((gerr z) != 0) = false) : ht z.re + ht z.im ≤ 20000 := by
  have h0 : gerr z = 0 := by simpa using h
  unfold gerr at h0
  by_cases hf : gfits (rg z) = true
  · have h1 : (fits (rf z.re) && fits (rf z.im)) = true := hf
    rw [Bool.and_eq_true] at h1
    have h2 := fits_ht_le h1.1
    have h3 := fits_ht_le h1.2
    omega
  · rw [if_neg hf] at h0; exact absurd h0 (by decide)
@[reducible] def invC (z : Cx) : Cx := (Cx.ofInt (1 : Int) (0 : Int)).div z
def zStep (n : Int) (z : Cx) (i : Int) (q : Cx) : Int × Cx :=
  if i < n - 1 then
    if z.zero = true then (5, z)
    else if ((gerr (invC z)) != 0) = true then (gerr (invC z), z)
    else if ((gerr ((invC z).add q)) != 0) = true then (gerr ((invC z).add q), z)
    else (0, (invC z).add q)
  else if ((gerr (z.add q)) != 0) = true then (gerr (z.add q), z)
  else (0, z.add q)
abbrev ZEl : Type := { x : Nat × Cx // ht x.2.re + ht x.2.im ≤ 20000 }
def zFrom (n : Int) (s : Int × Cx) (xs : List ZEl) : Int × Cx := xs.foldl (fun s x => if s.1 ≠ 0 then s else zStep n s.2 (x.1.1 : Int) x.1.2) s
def zFd (n : Int) (xs : List ZEl) : Int × Cx := zFrom n (0, Cx.ofInt (0 : Int) (0 : Int)) xs
theorem zFd_snoc {n : Int} {pre : List ZEl} {z : Cx} (h : zFd n pre = (0, z)) (x : ZEl) : zFd n (pre ++ [x]) = zStep n z (x.1.1 : Int) x.1.2 := by
  unfold zFd zFrom at *
  rw [List.foldl_append, h]; rfl
section
variable {n : Int} {z : Cx} {i : Int} {q : Cx}
theorem zs_zero (h : decide (i < n - 1) = true) (h1 : z.zero = true) : zStep n z i q = (5, z) := by
  unfold zStep; rw [if_pos (of_decide_eq_true h), if_pos h1]
theorem zs_inv (h : decide (i < n - 1) = true) (h1 : z.zero = false) (h2 : ((gerr (invC z)) != 0) = true) : zStep n z i q = (gerr (invC z), z) := by
  unfold zStep; rw [if_pos (of_decide_eq_true h), if_neg (by rw [h1]; decide), if_pos h2]
theorem zs_add (h : decide (i < n - 1) = true) (h1 : z.zero = false) (h2 : ((gerr (invC z)) != 0) = false) (h3 : ((gerr ((invC z).add q)) != 0) = true) : zStep n z i q = (gerr ((invC z).add q), z) := by
  unfold zStep; rw [if_pos (of_decide_eq_true h), if_neg (by rw [h1]; decide), if_neg (by rw [h2]; decide), if_pos h3]
theorem zs_ok (h : decide (i < n - 1) = true) (h1 : z.zero = false) (h2 : ((gerr (invC z)) != 0) = false) (h3 : ((gerr ((invC z).add q)) != 0) = false) : zStep n z i q = (0, (invC z).add q) := by
  unfold zStep; rw [if_pos (of_decide_eq_true h), if_neg (by rw [h1]; decide), if_neg (by rw [h2]; decide), if_neg (by rw [h3]; decide)]
theorem zs_last (h : decide (i < n - 1) = false) (h3 : ((gerr (z.add q)) != 0) = true) : zStep n z i q = (gerr (z.add q), z) := by
  unfold zStep; rw [if_neg (of_decide_eq_false h), if_pos h3]
theorem zs_first (h : decide (i < n - 1) = false) (h3 : ((gerr (z.add q)) != 0) = false) : zStep n z i q = (0, z.add q) := by
  unfold zStep; rw [if_neg (of_decide_eq_false h), if_neg (by rw [h3]; decide)]
theorem gerr_ne {z : Cx} (h : ((gerr z) != 0) = true) : gerr z ≠ 0 := bne_iff_ne.1 h
end
def CK (W W' : World) : Prop := ∀ (k : Nat) (c : Array Value) (T : TypeId) (fr : Nat × Nat), W.heap[k]? = some (.cells c T fr) → W'.heap[k]? = some (.cells c T fr)
theorem ck_grown {W W' : World} {row : Option Nat} (hg : W.grownBy W' row) (hr : ∀ r, row = some r → ∃ o : Obj, W.heap[r]? = some o ∧ o.isCells = false) : CK W W' := fun k c T fr h => by
  refine (hg.block k (lt_of h) (fun e => ?_)).trans h
  obtain ⟨o, h1, h2⟩ := hr k e.symm
  rw [h] at h1; cases h1; cases h2
theorem Words.ck {W W' : World} {v : Value} {l : List Nat} (h : Words W v l) (g : CK W W') : Words W' v l := by
  rcases h with h | ⟨b, off, cap, cur, fr, h1, h2, h3⟩
  · exact .inl h
  · exact .inr ⟨b, off, cap, cur, fr, h1, g _ _ _ _ h2, h3⟩
theorem Mag.ck {W W' : World} {v : Value} {n : Nat} (h : Mag W v n) (g : CK W W') : Mag W' v n := by
  obtain ⟨l, h1, h2⟩ := h; exact ⟨l, h1.ck g, h2⟩
theorem RatP.ck {q : Rat} {S : Nat → Prop} {v : Value} {W W' : World} (h : (RatP q).p S v W) (g : CK W W') : (RatP q).p S v W' := by
  obtain ⟨b, h1, h2, h3⟩ := h
  refine ⟨b, h1, h2, ?_⟩
  rcases h3 with ⟨v1, v2, h4, h5, h6⟩ | ⟨h4, h5⟩
  · exact .inl ⟨v1, v2, g _ _ _ _ h4, h5.ck g, h6.ck g⟩
  · exact .inr ⟨h4, g _ _ _ _ h5⟩
def MkI (S : Nat → Prop) (W : World) (B b0 b1 b2 b3 b7 : Nat) (sv : Value) (n : Int) (pre : List ZEl) (W' : World) : Prop :=
  ∃ (za zb : Nat) (z : Cx), zFd n pre = (0, z) ∧ ht z.re + ht z.im ≤ 20000 ∧ Amb S W za ∧ Amb S W zb ∧
    (W'.heap[b7]? = some (.cells #[.pointer (some ⟨za, 0, none⟩), .pointer (some ⟨zb, 0, none⟩)] 81 (0, 0)) ∧
    (RatP z.re).p (· = za) (.pointer (some ⟨za, 0, none⟩)) W' ∧ (RatP z.im).p (· = zb) (.pointer (some ⟨zb, 0, none⟩)) W' ∧
    W'.heap[b0]? = some (.cells #[sv] 22 (0, 0)) ∧ W'.heap[b1]? = some (.cells #[sv] 22 (0, 0)) ∧
    W'.heap[b2]? = some (.cells #[.bool false, .string ⟨#[]⟩, .bool false, .string ⟨#[]⟩, .bool false, .string ⟨#[]⟩, .bool false, .string ⟨#[]⟩] 30 (0, 0)) ∧
    W'.heap[b3]? = some (.cells #[.int .i64 0] 32 (0, 0))) ∧ RowKit.Below W.heap.size W W' ∧ B ≤ W'.heap.size
def MkX (W : World) (b2 b3 : Nat) (n : Int) (c : Code) (pre : List ZEl) (W' : World) : Prop :=
  c = .ret ∧ ∃ (e : Int) (z : Cx), zFd n pre = (e, z) ∧ e ≠ 0 ∧
    (W'.heap[b2]? = some (.cells #[.bool false, .string ⟨#[]⟩, .bool false, .string ⟨#[]⟩, .bool false, .string ⟨#[]⟩, .bool false, .string ⟨#[]⟩] 30 (0, 0)) ∧
    W'.heap[b3]? = some (.cells #[.int .i64 e] 32 (0, 0))) ∧ RowKit.Below W.heap.size W W'
def AxB (c : Array Value) (T : TypeId) (q : Nat → Prop) (W' : World) : Prop := ∃ b : Nat, q b ∧ W'.heap[b]? = some (.cells c T (0, 0))
theorem mkI_own (S : Nat → Prop) (W : World) (B0 b0 b1 b2 b3 b7 : Nat) (sv : Value) (n : Int) {B : Nat} (hB : W.heap.size ≤ B) : OwnFrom B (MkI S W B0 b0 b1 b2 b3 b7 sv n) := fun pre X Y row hs hg hr => by
  obtain ⟨za, zb, z, h1, h2, h3, h4, ⟨h5, h6, h7, h8, h9, h10, h13⟩, h11, h12⟩ := hs
  have ck := ck_grown hg (fun r e => (hr r e).2)
  exact ⟨za, zb, z, h1, h2, h3, h4, ⟨ck _ _ _ _ h5, RatP.ck h6 ck, RatP.ck h7 ck, ck _ _ _ _ h8, ck _ _ _ _ h9, ck _ _ _ _ h10, ck _ _ _ _ h13⟩, ownFrom_below (β := Unit) (Nat.le_refl _) hB () X Y row h11 hg hr, Nat.le_trans h12 hg.size⟩
theorem mkX_own (W : World) (b2 b3 : Nat) (n : Int) {B : Nat} (hB : W.heap.size ≤ B) (c : Code) : OwnFrom B (MkX W b2 b3 n c) := fun pre X Y row hs hg hr => by
  obtain ⟨h0, e, z, h1, h2, ⟨h3, h4⟩, h5⟩ := hs
  have ck := ck_grown hg (fun r e => (hr r e).2)
  exact ⟨h0, e, z, h1, h2, ⟨ck _ _ _ _ h3, ck _ _ _ _ h4⟩, ownFrom_below (β := Unit) (Nat.le_refl _) hB () X Y row h5 hg hr⟩
theorem axB_own (c : Array Value) (T : TypeId) (q : Nat → Prop) (B : Nat) : OwnFrom B (fun (_ : Unit) W' => AxB c T q W') := fun _ X Y row hs hg hr => by
  obtain ⟨b, h1, h2⟩ := hs
  exact ⟨b, h1, ck_grown hg (fun r e => (hr r e).2) _ _ _ _ h2⟩
theorem Rgn.Base.keepsF {R0 : Nat → Prop} {olds : List (Nat × Nat)} {w0 w : World} {B : Nat} (h : Base w0.heap.size R0 olds w0 w) (ho : ∀ p ∈ olds, p.1 < B) : KeepsFrom B w0 w :=
  ⟨h.grow.size, fun k o hB hk _ => (h.block k (lt_of hk) (fun x i hx => by have := ho _ (List.mem_of_getElem? hx); simp at this; omega)).trans hk⟩
theorem below_between {n : Nat} {W A C : World} (h1 : RowKit.Below n W A) (h2 : RowKit.Below n W C) (hs : A.heap.size ≤ C.heap.size) : RowKit.Below n A C :=
  ⟨h2.os.trans h1.os.symm, h2.tape.trans h1.tape.symm, h2.output.trans h1.output.symm, hs, fun k hk => (h2.block k hk).trans (h1.block k hk).symm⟩
theorem noLets {Q : Exit → Act → World → Prop} (h : ∀ a w, ¬ Q .outgrown a w) : ¬ LetsOut Q := fun ⟨a, w, hq⟩ => h a w hq
end Go.Proofs.YtllohoibifcmdaaGreat
namespace Go.Proofs.YtllohoibifcmdaaGreat
open Go.RowKit Rgn
theorem callsM {P : Program} {f : FuncId} {fn : Func} {c : Code} {args : Array Value} {w : World} {R : Ending → World → Prop} (hf : P.funcs[f]? = some fn) (hb : fn.body = some c)
    (h : c.wp P (bodyPostM Fence.wide 9 P fn R) { tmps := args ++ Array.replicate (fn.ntmps - args.size) undef, defers := [] } w) : Calls P f args w R :=
  callsIn_wide.1 (callsIn_of_wp_marks hf hb trivial (wpIn_wide.2 h) rfl)
theorem retM_ok {P : Program} {fn : Func} {R : Ending → World → Prop} {a : Act} {w : World} {v : Value} {F : Fence} {n : Nat} (hd : a.defers = []) (hr : (results fn a.tmps).run P w = .ok v w) (hR : R (.returned v) w) : bodyPostM F n P fn R .ret a w := by
  show LeavesInM F n P fn a.tmps R a.defers .returning w
  rw [hd]
  exact ⟨_, hr, hR⟩
theorem retM_def {P : Program} {fn : Func} {R : Ending → World → Prop} {a : Act} {w : World} {v : Value} {F : Fence} {n D : Nat} (hd : a.defers = [{ target := .collected D, args := #[] }]) (hK : w.heap[D]? = some (.deferred (some []))) (hr : (results fn a.tmps).run P (w.putObj D (.deferred none)) = .ok v (w.putObj D (.deferred none))) (hR : R (.returned v) (w.putObj D (.deferred none))) : bodyPostM F n P fn R .ret a w := by
  show LeavesInM F n P fn a.tmps R a.defers .returning w
  rw [hd]
  exact ⟨by simp, .inl ⟨_, _, rfl, run_takeDeferred hK, ⟨_, hr, hR⟩⟩⟩
theorem ck_put {w : World} {D : Nat} {o : Obj} (hK : w.heap[D]? = some o) (ho : o.isCells = false) (o' : Obj) : CK w (w.putObj D o') := ck_grown (grownBy_putObj' w D o') (fun r e => by cases e; exact ⟨o, hK, ho⟩)
section
variable {P : Program} {ops : Array Oper} {Q : Exit → Act → World → Prop} {o : Oper} {rest : List Oper} {a : Act} {w : World}
theorem wpT_valW {v : Value} (hw : Region.wanted o (yielded ops a.tmps) = true) (hr : (execOp a.eval o).run P w = .ok (.value v) w) (h : wpList P ops Q rest (a.put o.dst v) w) : wpList P ops Q (o :: rest) a w := by
  unfold wpList
  rw [if_pos hw]
  refine .inl ?_
  simp only [Oper.wp, hr, Oper.upon]
  exact h
theorem wpT_skipW (hw : Region.wanted o (yielded ops a.tmps) = false) (h : wpList P ops Q rest (a.put o.dst undef) w) : wpList P ops Q (o :: rest) a w := by
  unfold wpList
  rw [if_neg (by rw [hw]; decide)]
  exact h
theorem wpT_callKW {f : FuncId} {args : Array Value} {V : Value} (hw : Region.wanted o (yielded ops a.tmps) = true) (hr : (execOp a.eval o).run P w = .ok (.enter f args) w) (hc : Calls P f args w (RetV V w))
    (h : ∀ w', RowKit.Below w.heap.size w w' → wpList P ops Q rest (a.put o.dst V) w') : wpList P ops Q (o :: rest) a w := by
  unfold wpList
  rw [if_pos hw]
  refine .inl ?_
  simp only [Oper.wp, hr, Oper.upon]
  refine hc.mono fun e w' hq => ?_
  obtain ⟨rfl, h2⟩ := hq.is
  exact h w' h2
end
end Go.Proofs.YtllohoibifcmdaaGreat
namespace Go.Proofs.YtllohoibifcmdaaGreat
open Go.RowKit Rgn
theorem wp_as {P : Program} {c : Code} {Q : Exit → Act → World → Prop} {w : World} {a : Act} (a' : Act) (h : a = a') (H : c.wp P Q a' w) : c.wp P Q a w := h ▸ H
theorem wpIn_as {F : Fence} {n : Nat} {P : Program} {c : Code} {Q : Exit → Act → World → Prop} {w : World} {a : Act} (a' : Act) (h : a = a') (H : c.wpIn F n P Q a' w) : c.wpIn F n P Q a w := h ▸ H
theorem load_errno {w : World} {b : Nat} {v : Value} {T : TypeId} {fr : Nat × Nat} (hB : w.heap[b]? = some (.cells #[v] T fr)) : (loadVar 32 ⟨b, 0, none⟩).run Tryz.prog w = .ok v w := by
  have hc : w.cell? ⟨b, 0, none⟩ = some v := cell_of (off := 0) hB rfl
  simp [loadVar, isAgg, run_underlying Tryz.underlying32, hc, go_sem]
theorem results_rc {P : Program} {fn : Func} {p q ty ty' : Nat} {tmps : Array Value} {w : World} {g g' : Nat} {v : Value} (hf : fn.results = #[.cell p ty, .cell q ty']) (hp : tmps.getD p undef = .pointer (some ⟨g, 0, none⟩)) {t : TypeId} {cs : Array Value} {fr : Nat × Nat} (hg : w.heap[g]? = some (.cells cs t fr))
    {d : TypeDesc} (hu : P.underlying ty = some d) (hd : (match d with | .struct _ | .array _ _ => true | _ => false) = true) (hi : (P.info? ty).map (·.size) = some cs.size)
    (hp' : tmps.getD q undef = .pointer (some ⟨g', 0, none⟩)) (hl' : (loadVar ty' ⟨g', 0, none⟩).run P w = .ok v w) : (results fn tmps).run P w = .ok (.tuple #[.agg cs, v]) w := by
  have hp : tmps[p]?.getD undef = .pointer (some ⟨g, 0, none⟩) := by simpa using hp
  have hp' : tmps[q]?.getD undef = .pointer (some ⟨g', 0, none⟩) := by simpa using hp'
  have hl := run_loadVar_row (P := P) w g t ty cs fr d hg hu hd hi
  simp only [results, hf]
  simp [hp, hl, hp', hl', asAddr]
def unw (r : RW) : Int := sgn r.n (natB r.s.data.toList)
def unf (r : RF) : Rat := mkRat (unw r.a) (unw r.b).natAbs
def unrg (r : RG) : Cx := ⟨unf r.re, unf r.im⟩
theorem unw_rw (z : Int) : unw (rw z) = z := by
  have h : (rw z).s.data.toList = bytesOf z.natAbs := by simp [rw, bS]
  unfold unw
  rw [h, natB_bytesOf]
  exact sgn_self z
theorem unf_rf (q : Rat) : unf (rf q) = q := by
  show mkRat (unw (rw q.num)) (unw (rw (q.den : Int))).natAbs = q
  rw [unw_rw, unw_rw, Int.natAbs_natCast, Rat.mkRat_self]
theorem unrg_rg (c : Cx) : unrg (rg c) = c := by
  show Cx.mk (unf (rf c.re)) (unf (rf c.im)) = c
  rw [unf_rf, unf_rf]
def elC (l : List RG) (j : Nat) : ZEl := if h : ht (unrg (l.getD j rg0)).re + ht (unrg (l.getD j rg0)).im ≤ 20000 then ⟨(j, unrg (l.getD j rg0)), h⟩ else ⟨(j, Cx.ofInt (0 : Int) (0 : Int)), show ht (Cx.ofInt (0 : Int) (0 : Int)).re + ht (Cx.ofInt (0 : Int) (0 : Int)).im ≤ 20000 by decide⟩
theorem gfits_ht2 {c : Cx} (h : gfits (rg c) = true) : ht c.re + ht c.im ≤ 20000 := by
  have h1 : (fits (rf c.re) && fits (rf c.im)) = true := h
  rw [Bool.and_eq_true] at h1
  have h2 := fits_ht_le h1.1
  have h3 := fits_ht_le h1.2
  omega
theorem elC_whole {l : List RG} {j : Nat} (h : gwhole (l.getD j rg0) = true) : (elC l j).1.1 = j ∧ rg (elC l j).1.2 = l.getD j rg0 := by
  obtain ⟨a, b, e⟩ := gwhole_ex h
  have hm : gmay (l.getD j rg0) = true := by
    unfold gwhole at h
    rw [Bool.and_eq_true, Bool.and_eq_true] at h
    exact h.1.1
  unfold elC
  rw [e] at hm ⊢
  rw [gmay_rg] at hm
  have hb := gfits_ht2 hm
  rw [unrg_rg]
  rw [dif_pos hb]
  exact ⟨rfl, rfl⟩
noncomputable def badU (l : List RG) (k : Nat) : Bool := decide (l.length = 0) || (l.take k).any (fun r => !gwhole r)
theorem bad_start (l : List RG) : badU l (0 : Int).toNat = (((l.length : Nat) : Int) == 0) := by
  show badU l 0 = _
  symm
  unfold badU
  rw [List.take_zero, List.any_nil, Bool.or_false]
  by_cases h : l.length = 0
  · rw [h]; rfl
  · rw [decide_eq_false h, beq_eq_false_iff_ne]; omega
theorem bad_take {l : List RG} {k : Int} (h0 : 0 ≤ k) (h : k < ((l.length : Nat) : Int)) : badU l (k + 1).toNat = (badU l k.toNat || !gwhole (l.getD k.toNat rg0)) := by
  obtain ⟨n, rfl⟩ := Int.eq_ofNat_of_zero_le h0
  have hn : n < l.length := by omega
  have e1 : ((n : Int) + 1).toNat = n + 1 := by omega
  have e2 : (n : Int).toNat = n := by omega
  rw [e1, e2]
  unfold badU
  rw [List.take_succ_eq_append_getElem hn, List.any_append, List.getD_eq_getElem?_getD, List.getElem?_eq_getElem hn, Bool.or_assoc]
  simp
theorem bad_1 {l : List RG} {k : Int} {b : Bool} (h0 : 0 ≤ k) (h : k < ((l.length : Nat) : Int)) (hb : badU l k.toNat = b) (ht : b = true) : badU l (k + 1).toNat = true := by
  rw [bad_take h0 h, hb, ht]; rfl
theorem bad_2 {l : List RG} {k : Int} {b : Bool} (h0 : 0 ≤ k) (h : k < ((l.length : Nat) : Int)) (hb : badU l k.toNat = b) (ht : b = false) : badU l (k + 1).toNat = (!gwhole (l.getD k.toNat rg0)) := by
  rw [bad_take h0 h, hb, ht]; rfl
theorem bad_all {l : List RG} {k : Int} {b : Bool} (h0 : k ≤ ((l.length : Nat) : Int)) (h : ¬ k < ((l.length : Nat) : Int)) (hb : badU l k.toNat = b) : b = badU l l.length := by
  have : k.toNat = l.length := by omega
  rw [← this]; exact hb.symm
theorem bad_no {l : List RG} (h : badU l l.length = false) : l.length ≠ 0 ∧ ∀ j, j < l.length → gwhole (l.getD j rg0) = true := by
  unfold badU at h
  rw [Bool.or_eq_false_iff, decide_eq_false_iff_not, List.take_of_length_le (Nat.le_refl _)] at h
  refine ⟨h.1, fun j hj => ?_⟩
  have := List.any_eq_false.1 h.2 (l[j]) (List.getElem_mem hj)
  rw [List.getD_eq_getElem?_getD, List.getElem?_eq_getElem hj]
  simpa using this
noncomputable def mkRes (l : List RG) : RG × Int :=
  if badU l l.length = true then (rg0, 2)
  else if 4096 < l.length then (rg0, 3)
  else if (zFd (l.length : Int) (bwU l.length (elC l) l.length)).1 ≠ 0 then (rg0, (zFd (l.length : Int) (bwU l.length (elC l) l.length)).1)
  else (gcut (zFd (l.length : Int) (bwU l.length (elC l) l.length)).2, gerr (zFd (l.length : Int) (bwU l.length (elC l) l.length)).2)
theorem elC_enc {l : List RG} (h : badU l l.length = false) (j : Nat) (hj : j < l.length) : #[Value.int .i64 ((elC l j).1.1 : Int), rgV (rg (elC l j).1.2)] = #[.int .i64 (j : Int), rgV (l.getD j rg0)] := by
  obtain ⟨h1, h2⟩ := elC_whole ((bad_no h).2 j hj)
  rw [h2, h1]
@[reducible] def resV (r : RG × Int) : Value := .tuple #[.agg #[.bool r.1.re.a.n, .string r.1.re.a.s, .bool r.1.re.b.n, .string r.1.re.b.s, .bool r.1.im.a.n, .string r.1.im.a.s, .bool r.1.im.b.n, .string r.1.im.b.s], .int .i64 r.2]
theorem mk_bad {l : List RG} (h : badU l l.length = true) : resV (rg0, 2) = resV (mkRes l) := by unfold mkRes; rw [if_pos h]
theorem mk_long {l : List RG} (h : badU l l.length = false) (h1 : 4096 < l.length) : resV (rg0, 3) = resV (mkRes l) := by unfold mkRes; rw [if_neg (by rw [h]; decide), if_pos h1]
theorem mk_left {l : List RG} {pre : List ZEl} {e : Int} {z : Cx} (h : badU l l.length = false) (h1 : ¬ 4096 < l.length) (hp : ∃ k, k ≤ l.length ∧ pre = bwU l.length (elC l) k) (hz : zFd (l.length : Int) pre = (e, z)) (he : e ≠ 0) : resV (rg0, e) = resV (mkRes l) := by
  obtain ⟨k, hk, rfl⟩ := hp
  have key : ∀ m, k ≤ m → zFd (l.length : Int) (bwU l.length (elC l) m) = (e, z) := by
    intro m hm
    induction m with
    | zero => rw [← hz]; congr 1; unfold bwU; rw [show k = 0 by omega]
    | succ m ih =>
      rcases Nat.lt_or_ge m k with h2 | h2
      · have : k = m + 1 := by omega
        rw [← this]; exact hz
      · rw [bwU_succ]
        have := ih h2
        unfold zFd zFrom at *
        rw [List.foldl_append, this]
        show (if e ≠ 0 then (e, z) else _) = _
        rw [if_pos he]
  unfold mkRes
  rw [if_neg (by rw [h]; decide), if_neg h1, key _ hk, if_pos he]
theorem mk_done {l : List RG} {z : Cx} (h : badU l l.length = false) (h1 : ¬ 4096 < l.length) (hz : zFd (l.length : Int) (bwU l.length (elC l) l.length) = (0, z)) : resV (gcut z, gerr z) = resV (mkRes l) := by
  unfold mkRes
  rw [if_neg (by rw [h]; decide), if_neg h1, hz, if_neg (show ¬ (0 : Int) ≠ 0 by decide)]
end Go.Proofs.YtllohoibifcmdaaGreat
namespace Go.Proofs.YtllohoibifcmdaaGreat
open Go.RowKit Rgn
set_option maxHeartbeats 4000000
set_option maxRecDepth 100000
variable {S : Nat → Prop} {W : World}
set_option maxHeartbeats 4000000 in
theorem hMake {v0 : Value} (l : List RG) (t0 : GSl W v0 l) (p0 : l.length ≤ 1099511627776) :
  Calls Tryz.prog 11 #[v0] W (RetV (.tuple #[.agg #[.bool (mkRes l).1.re.a.n, .string (mkRes l).1.re.a.s, .bool (mkRes l).1.re.b.n, .string (mkRes l).1.re.b.s, .bool (mkRes l).1.im.a.n, .string (mkRes l).1.im.a.s, .bool (mkRes l).1.im.b.n, .string (mkRes l).1.im.b.s], .int .i64 (mkRes l).2]) W) := by
 obtain ⟨p_g0, c_g0, cur_g0, T_g0, fr_g0, rfl, y_g0, z_g0, P_g0, B_g0, Q_g0⟩ := GSl.open t0
 replace P_g0 := Lib.hid P_g0
 have X_g0 := GSl.lt B_g0
 have W_g0 := B_g0
 have o1 : ht (Cx.ofInt (1 : Int) (0 : Int)).re = 2 := by decide
 have o2 : ht (Cx.ofInt (1 : Int) (0 : Int)).im = 2 := by decide
 have bel := b0 W
 refine callsM Tryz.func11 rfl ?_
 refine wp_as (fr (.slice p_g0 l.length c_g0::us 79)) (by kernel_rfl) ?_
 refine gs 3 (Amb Z0 W) fun _ K1 => ?_
 refine .bx rfl (c := #[.slice p_g0 l.length c_g0]) (fun H => H.v 0 (.slice p_g0 l.length c_g0)) ?_
 refine .al rfl zG ?_
 refine .al rfl (#[.int .i64 0]) ?_
 refine .dk (fun u => .slice p_g0 l.length c_g0::sq u 0 3 (us 76)) K1 bel fun u1 w1 D bel => ?_
 obtain ⟨b2, E1_0, A_b2, B_b2⟩ := D.nw 0
 obtain ⟨b3, E1_1, A_b3, B_b3⟩ := D.nw 1
 obtain ⟨b4, E1_2, A_b4, B_b4⟩ := D.nw 2
 have N_b2_b3 := D.n2 0 1 E1_0 E1_1
 have N_b2_b4 := D.n2 0 2 E1_0 E1_2
 have N_b3_b4 := D.n2 1 2 E1_1 E1_2
 replace B_g0 := fun h => D.k (B_g0 h)
 clear D
 refine gs 4 (Amb Z0 W) fun _ K5 => ?_
 refine .e rfl (V := .slice p_g0 l.length c_g0) (fun H => x_ldc (H.z 1 E1_0) (H.b B_b2)) ?_
 refine .e rfl (V := .int .i64 ((l.length : Nat) : Int)) (fun H => by have e14 := H.g 14 0; clear H; go_simp) ?_
 refine .e rfl (V := .bool (((l.length : Nat) : Int) == 0)) (fun H => x_cmp (H.g 15 1) (H.c _)) ?_
 refine .mv rfl 2 ?_
 refine .dk (fun u => .slice p_g0 l.length c_g0::sq u1 0 3 (u 3::U::U::U::U::U::U::U::U::U::sq u 0 3 (us 63))) K5 bel fun u2 w2 D bel => ?_
 have E2_0 := D.q 0
 have E2_1 := D.q 1
 have E2_2 := D.q 2
 have E2_3 := D.q 3
 replace B_b2 := D.k B_b2
 replace B_b3 := D.k B_b3
 replace B_b4 := D.k B_b4
 replace B_g0 := fun h => D.k (B_g0 h)
 clear D
 refine wp_seq_k fun _ K6 => ?_
 refine gs 3 (Amb Z0 W) fun _ K7 => ?_
 refine .e rfl (V := .slice p_g0 l.length c_g0) (fun H => x_ldc (H.z 1 E1_0) (H.b B_b2)) ?_
 refine .e rfl (V := .int .i64 ((l.length : Nat) : Int)) (fun H => by have e17 := H.g 17 0; clear H; go_simp) ?_
 refine .mc rfl ?_
 refine .dk (fun u => .slice p_g0 l.length c_g0::sq u1 0 3 (u2 3::U::U::U::U::U::U::U::U::U::sq u2 0 3 (sq u 0 3 (us 60)))) K7 bel fun u3 w3 D bel => ?_
 have E3_0 := D.q 0
 have E3_1 := D.q 1
 have E3_2 := D.q 2
 replace B_b2 := D.k B_b2
 replace B_b3 := D.k B_b3
 replace B_b4 := D.k B_b4
 replace B_g0 := fun h => D.k (B_g0 h)
 clear D
 refine wp_block ?_
 refine wp_loop_ghost_k (fun n_ a_ w_ => ∃ s4 : Value, ∃ d6 : Value, ∃ s19 : Value, ∃ d20 : Value, ∃ d21 : Value, ∃ d22 : Value, ∃ d23 : Value, ∃ d24 : Value, ∃ d25 : Value, ∃ d26 : Value, ∃ d27 : Value, ∃ d28 : Value, ∃ d29 : Value, ∃ k : Int, ∃ bad : Bool, a_ = fr (.slice p_g0 l.length c_g0::sq u1 0 3 (s4::U::d6::U::U::U::U::U::U::U::sq u2 0 3 (u3 0::u3 1::s19::d20::d21::d22::d23::d24::d25::d26::d27::d28::d29::us 50))) ∧ n_ = (((l.length : Nat) : Int) - k).toNat ∧ 0 ≤ k ∧ k ≤ ((l.length : Nat) : Int) ∧ badU l k.toNat = bad ∧ s4 = .bool bad ∧ s19 = .int .i64 k ∧ w_.heap[b2]? = some (.cells #[.slice p_g0 l.length c_g0] 22 (0, 0)) ∧ w_.heap[b3]? = some (.cells #[.bool false, .string ⟨#[]⟩, .bool false, .string ⟨#[]⟩, .bool false, .string ⟨#[]⟩, .bool false, .string ⟨#[]⟩] 30 (0, 0)) ∧ w_.heap[b4]? = some (.cells #[.int .i64 0] 32 (0, 0)) ∧ (l.length ≠ 0 → w_.heap[slB p_g0]? = some (.cells cur_g0 T_g0 fr_g0)) ∧ RowKit.Below W.heap.size W w_) ((((l.length : Nat) : Int) - 0).toNat) ⟨_, _, _, _, _, _, _, _, _, _, _, _, _, 0, (((l.length : Nat) : Int) == 0), rfl, rfl, by first | omega | exact bad_start l, by first | omega | exact bad_start l, by first | omega | exact bad_start l, (by exact E2_3), (by exact E3_2), B_b2, B_b3, B_b4, B_g0, bel⟩ ?_
 clear B_b2 B_b3 B_b4 B_g0 bel
 rintro n_ _ w8 ⟨s4, d6, s19, d20, d21, d22, d23, d24, d25, d26, d27, d28, d29, k, bad, rfl, hn11, i0, i1, i2, rfl, rfl, B_b2, B_b3, B_b4, B_g0, bel⟩ J9 K10 hJ9 hK10
 refine gs 1 (Amb Z0 W) fun _ K12 => ?_
 refine .e rfl (V := .bool (decide (k < ((l.length : Nat) : Int)))) (fun H => x_cmp (H.v 19 (.int .i64 k)) (H.z 18 E3_1)) ?_
 refine .dk (fun u => .slice p_g0 l.length c_g0::sq u1 0 3 (.bool bad::U::d6::U::U::U::U::U::U::U::sq u2 0 3 (u3 0::u3 1::.int .i64 k::u 0::d21::d22::d23::d24::d25::d26::d27::d28::d29::us 50))) K12 bel fun u4 w4 D bel => ?_
 have E4_0 := D.q 0
 replace B_b2 := D.k B_b2
 replace B_b3 := D.k B_b3
 replace B_b4 := D.k B_b4
 replace B_g0 := fun h => D.k (B_g0 h)
 clear D
 refine wp_seq_k fun _ K13 => ?_
 rcases Bool.eq_false_or_eq_true (decide (k < ((l.length : Nat) : Int))) with c14 | c14
 ·
  refine wp_cond_true ((E4_0).trans (congrArg Value.bool c14)) ?_
  have dc14 := of_decide_eq_true c14
  refine wp_skip ?_
  refine K13 _ _ ?_
  refine wp_seq_k fun _ K15 => ?_
  refine wp_block ?_
  refine gs 4 (Amb Z0 W) fun _ K16 => ?_
  refine Go2.eq (i := 0) rfl (G0 rfl) (V := .pointer (some ⟨slB p_g0, slO p_g0 + 8 * k.toNat, none⟩)) (by intro u μ ρ H; have e17 := H.z 17 E3_0; have e19 := H.y 19; exact ex_index_gl rfl e17 e19 (by omega) (by omega) P_g0.out) ?_
  refine Go2.eq (i := 1) rfl (G0 rfl) (V := rgV (l.getD k.toNat rg0)) (by intro u μ ρ H; have e21 := H.g 21 0; exact ex_load_gl rfl e21 (H.blk (B_g0 (by omega)) (Nat.le_refl _) (no_nil _)) Q_g0 (by omega)) ?_
  refine .al rfl zG ?_
  refine .so rfl 2 (fun H => ⟨H.r 6 2, H.g 22 1⟩) ?_
  refine .dk (fun u => .slice p_g0 l.length c_g0::sq u1 0 3 (.bool bad::U::u 2::U::U::U::U::U::U::U::sq u2 0 3 (u3 0::u3 1::.int .i64 k::u4 0::u 0::u 1::d23::d24::d25::d26::d27::d28::d29::us 50))) K16 bel fun u5 w5 D bel => ?_
  obtain ⟨b17, E5_2, A_b17, B_b17⟩ := D.st 3
  have E5_0 := D.q 0
  have E5_1 := D.q 1
  have N_b3_b17 := D.n1 2 (lt_of B_b3) E5_2
  have N_b4_b17 := D.n1 2 (lt_of B_b4) E5_2
  replace B_b2 := D.k B_b2
  replace B_b3 := D.k B_b3
  replace B_b4 := D.k B_b4
  replace B_g0 := fun h => D.k (B_g0 h)
  clear D
  rcases Bool.eq_false_or_eq_true bad with e_ | e_
  ·
   subst e_
   refine wp_region_list ?_
   refine wpT_val rfl (ex_move rfl) ?_
   refine wpList_as (fr (.slice p_g0 l.length c_g0::sq u1 0 3 (.bool true::U::u5 2::U::U::U::U::U::U::U::sq u2 0 3 (u3 0::u3 1::.int .i64 k::u4 0::u5 0::u5 1::.bool true::d24::d25::d26::d27::d28::d29::us 50)))) (by kernel_rfl) ?_
   refine wpT_val rfl (ex_move rfl) ?_
   refine wpList_as (fr (.slice p_g0 l.length c_g0::sq u1 0 3 (.bool true::U::u5 2::U::U::U::U::U::U::U::sq u2 0 3 (u3 0::u3 1::.int .i64 k::u4 0::u5 0::u5 1::.bool true::.bool true::d25::d26::d27::d28::d29::us 50)))) (by kernel_rfl) ?_
   refine wpT_skipW (by kernel_rfl) ?_
   refine wpList_as (fr (.slice p_g0 l.length c_g0::sq u1 0 3 (.bool true::U::u5 2::U::U::U::U::U::U::U::sq u2 0 3 (u3 0::u3 1::.int .i64 k::u4 0::u5 0::u5 1::.bool true::.bool true::U::d26::d27::d28::d29::us 50)))) (by kernel_rfl) ?_
   refine wpT_skipW (by kernel_rfl) ?_
   refine wpList_as (fr (.slice p_g0 l.length c_g0::sq u1 0 3 (.bool true::U::u5 2::U::U::U::U::U::U::U::sq u2 0 3 (u3 0::u3 1::.int .i64 k::u4 0::u5 0::u5 1::.bool true::.bool true::U::U::d27::d28::d29::us 50)))) (by kernel_rfl) ?_
   refine wpT_skipW (by kernel_rfl) ?_
   refine wpList_as (fr (.slice p_g0 l.length c_g0::sq u1 0 3 (.bool true::U::u5 2::U::U::U::U::U::U::U::sq u2 0 3 (u3 0::u3 1::.int .i64 k::u4 0::u5 0::u5 1::.bool true::.bool true::U::U::U::d28::d29::us 50)))) (by kernel_rfl) ?_
   refine wpT_val (v := .bool true) rfl (by go_simp) ?_
   refine wpList_as (fr (.slice p_g0 l.length c_g0::sq u1 0 3 (.bool true::U::u5 2::U::U::U::U::U::U::U::sq u2 0 3 (u3 0::u3 1::.int .i64 k::u4 0::u5 0::u5 1::.bool true::.bool true::U::U::U::.bool true::d29::us 50)))) (by kernel_rfl) ?_
   refine wpT_val rfl (ex_assign rfl) ?_
   refine wpList_as (fr (.slice p_g0 l.length c_g0::sq u1 0 3 (.bool true::U::u5 2::U::U::U::U::U::U::U::sq u2 0 3 (u3 0::u3 1::.int .i64 k::u4 0::u5 0::u5 1::.bool true::.bool true::U::U::U::.bool true::d29::us 50)))) (by kernel_rfl) ?_
   refine wpList_nil ?_
   show _
   refine inBlock_normal ?_
   refine K15 _ _ ?_
   refine wp_region_list ?_
   refine wpT_val (v := .int .i64 (k + 1)) rfl (by have aw_ : IntKind.wrap .i64 (k + 1) = k + 1 := IntWalk.i64_in _ (by omega); go_simp) ?_
   refine wpList_as (fr (.slice p_g0 l.length c_g0::sq u1 0 3 (.bool true::U::u5 2::U::U::U::U::U::U::U::sq u2 0 3 (u3 0::u3 1::.int .i64 k::u4 0::u5 0::u5 1::.bool true::.bool true::U::U::U::.bool true::.int .i64 (k + 1)::us 50)))) (by kernel_rfl) ?_
   refine wpT_val rfl (ex_move rfl) ?_
   refine wpList_as (fr (.slice p_g0 l.length c_g0::sq u1 0 3 (.bool true::U::u5 2::U::U::U::U::U::U::U::sq u2 0 3 (u3 0::u3 1::.int .i64 (k + 1)::u4 0::u5 0::u5 1::.bool true::.bool true::U::U::U::.bool true::.int .i64 (k + 1)::us 50)))) (by kernel_rfl) ?_
   refine wpList_nil ?_
   show _
   refine hK10 _ _ (Handed.intro ((((l.length : Nat) : Int) - (k + 1)).toNat) (by rw [hn11]; omega) (hJ9 _ _ _ ⟨_, _, _, _, _, _, _, _, _, _, _, _, _, k + 1, true, rfl, rfl, by first | omega | exact bad_1 i0 dc14 i2 rfl | exact bad_2 i0 dc14 i2 rfl, by first | omega | exact bad_1 i0 dc14 i2 rfl | exact bad_2 i0 dc14 i2 rfl, by first | omega | exact bad_1 i0 dc14 i2 rfl | exact bad_2 i0 dc14 i2 rfl, rfl, rfl, B_b2, B_b3, B_b4, B_g0, bel⟩))
  ·
   subst e_
   refine wp_region_list ?_
   refine wpT_val rfl (ex_move rfl) ?_
   refine wpList_as (fr (.slice p_g0 l.length c_g0::sq u1 0 3 (.bool false::U::u5 2::U::U::U::U::U::U::U::sq u2 0 3 (u3 0::u3 1::.int .i64 k::u4 0::u5 0::u5 1::.bool false::d24::d25::d26::d27::d28::d29::us 50)))) (by kernel_rfl) ?_
   refine wpT_val rfl (ex_move rfl) ?_
   refine wpList_as (fr (.slice p_g0 l.length c_g0::sq u1 0 3 (.bool false::U::u5 2::U::U::U::U::U::U::U::sq u2 0 3 (u3 0::u3 1::.int .i64 k::u4 0::u5 0::u5 1::.bool false::.bool false::d25::d26::d27::d28::d29::us 50)))) (by kernel_rfl) ?_
   refine wpT_valW (v := rgV (l.getD k.toNat rg0)) (by kernel_rfl) (ex_load_row 30 _ rfl (by exact E5_2) B_b17 Tryz.underlying30 rfl (by kernel_rfl)) ?_
   refine wpList_as (fr (.slice p_g0 l.length c_g0::sq u1 0 3 (.bool false::U::u5 2::U::U::U::U::U::U::U::sq u2 0 3 (u3 0::u3 1::.int .i64 k::u4 0::u5 0::u5 1::.bool false::.bool false::rgV (l.getD k.toNat rg0)::d26::d27::d28::d29::us 50)))) (by kernel_rfl) ?_
   refine wpT_callKW (V := .bool (gwhole (l.getD k.toNat rg0))) (by kernel_rfl) (ex_call rfl rfl Tryz.func28 (by kernel_rfl) (by kernel_rfl) (by simp only [List.map_toArray, List.map_cons, List.map_nil]; rfl)) (hWhole (r := l.getD k.toNat rg0)  ) fun w18 ow18 => ?_
   replace B_b2 := (ow18.block b2 (lt_of B_b2)).trans B_b2
   replace B_b3 := (ow18.block b3 (lt_of B_b3)).trans B_b3
   replace B_b4 := (ow18.block b4 (lt_of B_b4)).trans B_b4
   replace B_b17 := (ow18.block b17 (lt_of B_b17)).trans B_b17
   replace B_g0 := fun h => (ow18.block _ (lt_of (B_g0 h))).trans (B_g0 h)
   replace bel := bel.trans (ow18.mono bel.size)
   refine wpList_as (fr (.slice p_g0 l.length c_g0::sq u1 0 3 (.bool false::U::u5 2::U::U::U::U::U::U::U::sq u2 0 3 (u3 0::u3 1::.int .i64 k::u4 0::u5 0::u5 1::.bool false::.bool false::rgV (l.getD k.toNat rg0)::.bool (gwhole (l.getD k.toNat rg0))::d27::d28::d29::us 50)))) (by kernel_rfl) ?_
   refine wpT_valW (v := .bool (!(gwhole (l.getD k.toNat rg0)))) (by kernel_rfl) (by go_simp) ?_
   refine wpList_as (fr (.slice p_g0 l.length c_g0::sq u1 0 3 (.bool false::U::u5 2::U::U::U::U::U::U::U::sq u2 0 3 (u3 0::u3 1::.int .i64 k::u4 0::u5 0::u5 1::.bool false::.bool false::rgV (l.getD k.toNat rg0)::.bool (gwhole (l.getD k.toNat rg0))::.bool (!(gwhole (l.getD k.toNat rg0)))::d28::d29::us 50)))) (by kernel_rfl) ?_
   refine wpT_val (v := .bool (!(gwhole (l.getD k.toNat rg0)))) rfl (by go_simp) ?_
   refine wpList_as (fr (.slice p_g0 l.length c_g0::sq u1 0 3 (.bool false::U::u5 2::U::U::U::U::U::U::U::sq u2 0 3 (u3 0::u3 1::.int .i64 k::u4 0::u5 0::u5 1::.bool false::.bool false::rgV (l.getD k.toNat rg0)::.bool (gwhole (l.getD k.toNat rg0))::.bool (!(gwhole (l.getD k.toNat rg0)))::.bool (!(gwhole (l.getD k.toNat rg0)))::d29::us 50)))) (by kernel_rfl) ?_
   refine wpT_val rfl (ex_assign rfl) ?_
   refine wpList_as (fr (.slice p_g0 l.length c_g0::sq u1 0 3 (.bool (!(gwhole (l.getD k.toNat rg0)))::U::u5 2::U::U::U::U::U::U::U::sq u2 0 3 (u3 0::u3 1::.int .i64 k::u4 0::u5 0::u5 1::.bool false::.bool false::rgV (l.getD k.toNat rg0)::.bool (gwhole (l.getD k.toNat rg0))::.bool (!(gwhole (l.getD k.toNat rg0)))::.bool (!(gwhole (l.getD k.toNat rg0)))::d29::us 50)))) (by kernel_rfl) ?_
   refine wpList_nil ?_
   show _
   refine inBlock_normal ?_
   refine K15 _ _ ?_
   refine wp_region_list ?_
   refine wpT_val (v := .int .i64 (k + 1)) rfl (by have aw_ : IntKind.wrap .i64 (k + 1) = k + 1 := IntWalk.i64_in _ (by omega); go_simp) ?_
   refine wpList_as (fr (.slice p_g0 l.length c_g0::sq u1 0 3 (.bool (!(gwhole (l.getD k.toNat rg0)))::U::u5 2::U::U::U::U::U::U::U::sq u2 0 3 (u3 0::u3 1::.int .i64 k::u4 0::u5 0::u5 1::.bool false::.bool false::rgV (l.getD k.toNat rg0)::.bool (gwhole (l.getD k.toNat rg0))::.bool (!(gwhole (l.getD k.toNat rg0)))::.bool (!(gwhole (l.getD k.toNat rg0)))::.int .i64 (k + 1)::us 50)))) (by kernel_rfl) ?_
   refine wpT_val rfl (ex_move rfl) ?_
   refine wpList_as (fr (.slice p_g0 l.length c_g0::sq u1 0 3 (.bool (!(gwhole (l.getD k.toNat rg0)))::U::u5 2::U::U::U::U::U::U::U::sq u2 0 3 (u3 0::u3 1::.int .i64 (k + 1)::u4 0::u5 0::u5 1::.bool false::.bool false::rgV (l.getD k.toNat rg0)::.bool (gwhole (l.getD k.toNat rg0))::.bool (!(gwhole (l.getD k.toNat rg0)))::.bool (!(gwhole (l.getD k.toNat rg0)))::.int .i64 (k + 1)::us 50)))) (by kernel_rfl) ?_
   refine wpList_nil ?_
   show _
   refine hK10 _ _ (Handed.intro ((((l.length : Nat) : Int) - (k + 1)).toNat) (by rw [hn11]; omega) (hJ9 _ _ _ ⟨_, _, _, _, _, _, _, _, _, _, _, _, _, k + 1, !(gwhole (l.getD k.toNat rg0)), rfl, rfl, by first | omega | exact bad_1 i0 dc14 i2 rfl | exact bad_2 i0 dc14 i2 rfl, by first | omega | exact bad_1 i0 dc14 i2 rfl | exact bad_2 i0 dc14 i2 rfl, by first | omega | exact bad_1 i0 dc14 i2 rfl | exact bad_2 i0 dc14 i2 rfl, rfl, rfl, B_b2, B_b3, B_b4, B_g0, bel⟩))
 ·
  refine wp_cond_false ((E4_0).trans (congrArg Value.bool c14)) ?_
  have dc14 := of_decide_eq_false c14
  refine wp_exit ?_
  refine then_exit ?_
  refine then_exit ?_
  refine inBlock_here ?_
  refine K6 _ _ ?_
  refine wp_seq_k fun _ K19 => ?_
  refine wp_block ?_
  refine gs 2 (Amb Z0 W) fun _ K20 => ?_
  refine .mz rfl 4 (V := .bool bad) rfl ?_
  refine .mv rfl 0 ?_
  refine .dk (fun u => .slice p_g0 l.length c_g0::sq u1 0 3 (.bool bad::U::d6::U::U::U::U::U::U::U::sq u2 0 3 (u3 0::u3 1::.int .i64 k::u4 0::d21::d22::d23::d24::d25::d26::d27::d28::d29::u 1::u 0::us 48))) K20 bel fun u8 w8 D bel => ?_
  have E8_0 := D.q 0
  have E8_1 := D.q 1
  replace B_b2 := D.k B_b2
  replace B_b3 := D.k B_b3
  replace B_b4 := D.k B_b4
  replace B_g0 := fun h => D.k (B_g0 h)
  clear D
  rcases Bool.eq_false_or_eq_true bad with c21 | c21
  ·
   refine wp_cond_true ((E8_1).trans (congrArg Value.bool c21)) ?_
   refine wp_seq_k fun _ K22 => ?_
   refine go2_seq 3 rfl (Amb Z0 W) [(b3, 1), (b4, 2)] [1, 2] (Olds.cons (R0 := fun _ => True) (lt_of B_b3) (by simp [(Ne.symm N_b3_b4)]) (Olds.one (lt_of B_b4))) (by kernel_rfl) ?_
   refine .e rfl (V := .agg zG) (fun H => by clear H; go_simp) ?_
   refine .sz rfl 0 B_b3 (lt_of B_b3) (by intro y k hy; match y, hy with | 0, hy => rfl | 1, hy => simp at hy; exact absurd hy.1 (Ne.symm N_b3_b4)) (fun H => ⟨(H.z 2 E1_1), (H.g 32 0)⟩) ?_
   refine .sc rfl 1 (#[.int .i64 2]) B_b4 (lt_of B_b4) (by intro y k hy; match y, hy with | 0, hy => simp at hy; exact absurd hy.1 N_b3_b4 | 1, hy => rfl) (fun H => ⟨(H.z 3 E1_2), (H.c _)⟩) ?_
   refine .dd (fun u => ⟨List.toArray (.slice p_g0 l.length c_g0::sq u1 0 3 (.bool bad::U::d6::U::U::U::U::U::U::U::sq u2 0 3 (u3 0::u3 1::.int .i64 k::u4 0::d21::d22::d23::d24::d25::d26::d27::d28::d29::u8 1::u8 0::u 0::us 47))), []⟩) bel.size fun u9 w9 D => ?_
   have E9_0 := D.q 0
   replace B_b2 := D.kk B_b2 (no_cons (Ne.symm N_b2_b3) (no_cons (Ne.symm N_b2_b4) (no_nil _)))
   replace B_b3 := D.ol 1
   replace B_b4 := D.ol 2
   replace B_g0 := fun h => D.kk (B_g0 h) (no_cons (Nat.ne_of_gt (Nat.lt_of_lt_of_le (X_g0 h) A_b3)) (no_cons (Nat.ne_of_gt (Nat.lt_of_lt_of_le (X_g0 h) A_b4)) (no_nil _)))
   replace bel := D.d.base.bel bel bel.size (by simp; omega)
   clear D
   refine K22 _ _ ?_
   refine wp_ret ?_
   refine retM_ok rfl (by exact results_rc rfl (by exact E1_1) B_b3 Tryz.underlying30 rfl (by kernel_rfl) (by exact E1_2) (load_errno B_b4)) (RetV.mk ?_ bel)
   exact congrArg Ending.returned (mk_bad ((bad_all i1 dc14 i2).symm.trans c21))
  ·
   refine wp_cond_false ((E8_1).trans (congrArg Value.bool c21)) ?_
   refine gs 4 (Amb Z0 W) fun _ K23 => ?_
   refine .e rfl (V := .slice p_g0 l.length c_g0) (fun H => x_ldc (H.z 1 E1_0) (H.b B_b2)) ?_
   refine .e rfl (V := .int .i64 ((l.length : Nat) : Int)) (fun H => by have e34 := H.g 34 0; clear H; go_simp) ?_
   refine .e rfl (V := .bool (decide (4096 < ((l.length : Nat) : Int)))) (fun H => x_cmp (H.g 35 1) (H.c _)) ?_
   refine .mv rfl 2 ?_
   refine .dk (fun u => .slice p_g0 l.length c_g0::sq u1 0 3 (.bool bad::U::d6::U::U::U::U::U::U::U::sq u2 0 3 (u3 0::u3 1::.int .i64 k::u4 0::d21::d22::d23::d24::d25::d26::d27::d28::d29::u8 1::u8 0::U::u 3::sq u 0 3 (us 43)))) K23 bel fun u10 w10 D bel => ?_
   have E10_0 := D.q 0
   have E10_1 := D.q 1
   have E10_2 := D.q 2
   have E10_3 := D.q 3
   replace B_b2 := D.k B_b2
   replace B_b3 := D.k B_b3
   replace B_b4 := D.k B_b4
   replace B_g0 := fun h => D.k (B_g0 h)
   clear D
   rcases Bool.eq_false_or_eq_true (decide (4096 < ((l.length : Nat) : Int))) with c24 | c24
   ·
    refine wp_cond_true ((E10_3).trans (congrArg Value.bool c24)) ?_
    have dc24 := of_decide_eq_true c24
    refine wp_seq_k fun _ K25 => ?_
    refine go2_seq 3 rfl (Amb Z0 W) [(b3, 1), (b4, 2)] [1, 2] (Olds.cons (R0 := fun _ => True) (lt_of B_b3) (by simp [(Ne.symm N_b3_b4)]) (Olds.one (lt_of B_b4))) (by kernel_rfl) ?_
    refine .e rfl (V := .agg zG) (fun H => by clear H; go_simp) ?_
    refine .sz rfl 0 B_b3 (lt_of B_b3) (by intro y k hy; match y, hy with | 0, hy => rfl | 1, hy => simp at hy; exact absurd hy.1 (Ne.symm N_b3_b4)) (fun H => ⟨(H.z 2 E1_1), (H.g 37 0)⟩) ?_
    refine .sc rfl 1 (#[.int .i64 3]) B_b4 (lt_of B_b4) (by intro y k hy; match y, hy with | 0, hy => simp at hy; exact absurd hy.1 N_b3_b4 | 1, hy => rfl) (fun H => ⟨(H.z 3 E1_2), (H.c _)⟩) ?_
    refine .dd (fun u => ⟨List.toArray (.slice p_g0 l.length c_g0::sq u1 0 3 (.bool bad::U::d6::U::U::U::U::U::U::U::sq u2 0 3 (u3 0::u3 1::.int .i64 k::u4 0::d21::d22::d23::d24::d25::d26::d27::d28::d29::u8 1::u8 0::U::u10 3::sq u10 0 3 (u 0::us 42)))), []⟩) bel.size fun u11 w11 D => ?_
    have E11_0 := D.q 0
    replace B_b2 := D.kk B_b2 (no_cons (Ne.symm N_b2_b3) (no_cons (Ne.symm N_b2_b4) (no_nil _)))
    replace B_b3 := D.ol 1
    replace B_b4 := D.ol 2
    replace B_g0 := fun h => D.kk (B_g0 h) (no_cons (Nat.ne_of_gt (Nat.lt_of_lt_of_le (X_g0 h) A_b3)) (no_cons (Nat.ne_of_gt (Nat.lt_of_lt_of_le (X_g0 h) A_b4)) (no_nil _)))
    replace bel := D.d.base.bel bel bel.size (by simp; omega)
    clear D
    refine K25 _ _ ?_
    refine wp_ret ?_
    refine retM_ok rfl (by exact results_rc rfl (by exact E1_1) B_b3 Tryz.underlying30 rfl (by kernel_rfl) (by exact E1_2) (load_errno B_b4)) (RetV.mk ?_ bel)
    exact congrArg Ending.returned (mk_long ((bad_all i1 dc14 i2).symm.trans c21) (by omega))
   ·
    refine wp_cond_false ((E10_3).trans (congrArg Value.bool c24)) ?_
    have dc24 := of_decide_eq_false c24
    refine wp_skip ?_
    refine inBlock_normal ?_
    refine K19 _ _ ?_
    refine gs 3 (Amb Z0 W) fun _ K26 => ?_
    refine .cR rfl [] Tryz.func51 (fun H => ⟨_, ar2 (H.c (.int .i64 0)) (H.c (.int .i64 0)), xInt _ _ (by first | omega | exact zero_norm x_x | (have k1 := hc_div (Cx.ofInt (1 : Int) (0 : Int)) z; omega) | (have k1 := gerr_ht x_x; omega) | (have k1 := gerr_ht x_x; have k2 := hc_add ((Cx.ofInt (1 : Int) (0 : Int)).div z) x.1.2; omega) | (have k2 := hc_add z x.1.2; omega)) (by first | omega | exact zero_norm x_x | (have k1 := hc_div (Cx.ofInt (1 : Int) (0 : Int)) z; omega) | (have k1 := gerr_ht x_x; omega) | (have k1 := gerr_ht x_x; have k2 := hc_add ((Cx.ofInt (1 : Int) (0 : Int)).div z) x.1.2; omega) | (have k2 := hc_add z x.1.2; omega)) (by first | omega | exact zero_norm x_x | (have k1 := hc_div (Cx.ofInt (1 : Int) (0 : Int)) z; omega) | (have k1 := gerr_ht x_x; omega) | (have k1 := gerr_ht x_x; have k2 := hc_add ((Cx.ofInt (1 : Int) (0 : Int)).div z) x.1.2; omega) | (have k2 := hc_add z x.1.2; omega)) (by first | omega | exact zero_norm x_x | (have k1 := hc_div (Cx.ofInt (1 : Int) (0 : Int)) z; omega) | (have k1 := gerr_ht x_x; omega) | (have k1 := gerr_ht x_x; have k2 := hc_add ((Cx.ofInt (1 : Int) (0 : Int)).div z) x.1.2; omega) | (have k2 := hc_add z x.1.2; omega))⟩) ?_
    refine .al rfl (#[.pointer none, .pointer none]) ?_
    refine Go2.storeOwn (i := 2) (m := 1) rfl rfl (.head _) (SP.cells 1 [0] (fun u => #[((u 0).v.cells.getD 0 undef), ((u 0).v.cells.getD 1 undef)]) 81 (by intro u u' h; simp [h 0 (by simp)])) (fun u μ ρ b H h0 hB hb => ?_) ?_
    · have e7 := H.r 7 1; have e38 := H.r 38 0
      rw [h0] at e7
      obtain ⟨x1, x2, h1, h2, h3⟩ := (H.a 0 rfl)
      have o1 := VP1.rat h2
      have o2 := VP1.rat h3
      rw [h1] at e38
      refine ⟨μ.setRow b #[x1, x2], ex_store_row 81 _ _ rfl e7 e38 hb (by kernel_rfl) rfl (by simp [o1, o2]), fun g => ⟨b, ?_, hB, ?_⟩, setRow_only _ _ _⟩
      · rw [upd_other _ _ (by decide)]; exact h0
      · rw [setRow_at hb]; try simp [upd, h1, Value.cells]
    refine .dk (fun u => .slice p_g0 l.length c_g0::sq u1 0 3 (.bool bad::U::d6::u 1::U::U::U::U::U::U::sq u2 0 3 (u3 0::u3 1::.int .i64 k::u4 0::d21::d22::d23::d24::d25::d26::d27::d28::d29::u8 1::u8 0::U::u10 3::sq u10 0 3 (U::u 0::us 41)))) K26 bel fun u12 w12 D bel => ?_
    obtain ⟨b27, b28, E12_0, L_b27, L_b28, F_b27, F_b28⟩ := CxP.elim (D.rr 0)
    obtain ⟨b29, E12_1, A_b29, B_b29⟩ := (D.a 2 rfl)
    replace A_b29 := le2 D.le A_b29
    have N_b2_b29 := D.n1 1 (lt_of B_b2) E12_1
    have N_b3_b29 := D.n1 1 (lt_of B_b3) E12_1
    have N_b4_b29 := D.n1 1 (lt_of B_b4) E12_1
    replace B_b2 := D.k B_b2
    replace B_b3 := D.k B_b3
    replace B_b4 := D.k B_b4
    simp only [Value.cells, E12_0, E12_1] at B_b29
    replace B_b29 : w12.heap[b29]? = some (.cells #[pt b27, pt b28] 81 (0, 0)) := B_b29
    replace B_g0 := fun h => D.k (B_g0 h)
    clear D
    refine wp_seq_k fun _ K30 => ?_
    refine wp_seq_k fun _ K31 => ?_
    refine wp_region_list ?_
    refine wpT_val (v := .slice p_g0 l.length c_g0) rfl (by have c1 := cell_of (off := 0) B_b2 rfl; have e_ := E1_0; go_simp) ?_
    refine wpList_as (fr (.slice p_g0 l.length c_g0::sq u1 0 3 (.bool bad::U::d6::u12 1::U::U::U::U::U::U::sq u2 0 3 (u3 0::u3 1::.int .i64 k::u4 0::d21::d22::d23::d24::d25::d26::d27::d28::d29::u8 1::u8 0::U::u10 3::sq u10 0 3 (U::u12 0::.slice p_g0 l.length c_g0::us 40))))) (by kernel_rfl) ?_
    refine wpT_bw rfl (ex_call rfl rfl Tryz.func52 (by kernel_rfl) (by kernel_rfl) (by simp only [List.map_toArray, List.map_cons, List.map_nil]; show (#[.slice p_g0 l.length c_g0] : Array Value) = #[.slice p_g0 l.length c_g0]; rfl)) fun b0 w32 A_b0 B_b0 ow32 => ?_
    have N_b2_b0 : b2 ≠ b0 := Nat.ne_of_lt (Nat.lt_of_lt_of_le (lt_of B_b2) A_b0)
    have N_b3_b0 : b3 ≠ b0 := Nat.ne_of_lt (Nat.lt_of_lt_of_le (lt_of B_b3) A_b0)
    have N_b4_b0 : b4 ≠ b0 := Nat.ne_of_lt (Nat.lt_of_lt_of_le (lt_of B_b4) A_b0)
    have N_b29_b0 : b29 ≠ b0 := Nat.ne_of_lt (Nat.lt_of_lt_of_le (lt_of B_b29) A_b0)
    replace A_b0 := Nat.le_trans bel.size A_b0
    replace B_b2 := (ow32.block b2 (lt_of B_b2)).trans B_b2
    replace B_b3 := (ow32.block b3 (lt_of B_b3)).trans B_b3
    replace B_b4 := (ow32.block b4 (lt_of B_b4)).trans B_b4
    replace B_b29 := (ow32.block b29 (lt_of B_b29)).trans B_b29
    replace F_b27 := (RatP ((Cx.ofInt (0 : Int) (0 : Int)).re)).grow (Rgn.Below.growS ow32 (Nat.le_refl _) _) F_b27
    replace F_b28 := (RatP ((Cx.ofInt (0 : Int) (0 : Int)).im)).grow (Rgn.Below.growS ow32 (Nat.le_refl _) _) F_b28
    replace B_g0 := fun h => (ow32.block _ (lt_of (B_g0 h))).trans (B_g0 h)
    replace bel := bel.trans (ow32.mono bel.size)
    refine wpList_as (fr (.slice p_g0 l.length c_g0::sq u1 0 3 (.bool bad::U::d6::u12 1::U::U::U::U::U::U::sq u2 0 3 (u3 0::u3 1::.int .i64 k::u4 0::d21::d22::d23::d24::d25::d26::d27::d28::d29::u8 1::u8 0::U::u10 3::sq u10 0 3 (U::u12 0::.slice p_g0 l.length c_g0::.func (.func 108) #[] #[.pointer (some ⟨b0, 0, none⟩)]::us 39))))) (by kernel_rfl) ?_
    refine wpList_nil ?_
    show _
    refine K31 _ _ ?_
    refine wp_block ?_
    have nL := bel.size
    have hbad : badU l l.length = false := (bad_all i1 dc14 i2).symm.trans c21
    have lt_b2 := lt_of B_b2
    have lt_b3 := lt_of B_b3
    have lt_b4 := lt_of B_b4
    have lt_b29 := lt_of B_b29
    have lt_b0 := lt_of B_b0
    refine (wpIn_wide (n := 9)).1 (wpIn_rangeFunc_ownH (F := Fence.wide) (n := 9) (α := ZEl) rfl (by decide) (gf := 108) (lb := #[.pointer (some ⟨b0, 0, none⟩)]) rfl trivial (enters_of Tryz.func108 (by kernel_rfl) rfl) (encs := fun x => #[.int .i64 (x.1.1 : Int), rgV (rg x.1.2)]) (Kp := KpB W.heap.size b0) (bw_stops _ (elC l) Fence.wide 8 trivial rfl (by decide) b0 W.heap.size (slB p_g0) (slO p_g0) c_g0 l cur_g0 fr_g0 (elC_enc hbad) (bad_no hbad).1 p0 y_g0 z_g0 (X_g0 (bad_no hbad).1) _ nL (by have h_ := B_b0; rw [P_g0.out (bad_no hbad).1] at h_; exact h_) (B_g0 (bad_no hbad).1) Q_g0) kpB_t (kpB_b nL lt_b0) (Below.refl _ _) (by intro x_; rfl) (MkI Z0 W w32.heap.size b0 b2 b3 b4 b29 (.slice p_g0 l.length c_g0) (l.length : Int)) (MkX W b3 b4 (l.length : Int)) (mkI_own _ _ _ _ _ _ _ _ _ _ nL) (mkX_own _ _ _ _ nL) ?_ (fun x a' => AxB #[.bool (decide (x.1.2.re.num < 0)), .string (bS x.1.2.re.num.natAbs), .bool (decide ((x.1.2.re.den : Int) < 0)), .string (bS (x.1.2.re.den : Int).natAbs), .bool (decide (x.1.2.im.num < 0)), .string (bS x.1.2.im.num.natAbs), .bool (decide ((x.1.2.im.den : Int) < 0)), .string (bS (x.1.2.im.den : Int).natAbs)] 30 (fun q_ => a' = fr (.slice p_g0 l.length c_g0::sq u1 0 3 (.bool bad::U::d6::u12 1::.int .i64 (x.1.1 : Int)::.pointer (some ⟨q_, 0, none⟩)::U::U::U::U::sq u2 0 3 (u3 0::u3 1::.int .i64 k::u4 0::d21::d22::d23::d24::d25::d26::d27::d28::d29::u8 1::u8 0::U::u10 3::sq u10 0 3 (U::u12 0::.slice p_g0 l.length c_g0::.func (.func 108) #[] #[.pointer (some ⟨b0, 0, none⟩)]::.int .i64 (x.1.1 : Int)::rgV (rg x.1.2)::us 37)))) ∧ w32.heap.size ≤ q_)) (fun x a' => axB_own _ _ _ _) ?_ ?_ ?_ ?_)
    · exact ⟨b27, b28, _, rfl, by decide, L_b27, L_b28, ⟨B_b29, F_b27, F_b28, B_b0, B_b2, B_b3, B_b4⟩, bel, Nat.le_refl _⟩
    ·
     clear B_b2 B_b3 B_b4 B_b29 B_b0 F_b27 F_b28 bel B_g0
     rintro lp_ pre x wr K_ ⟨za, zb, z, hz0, hzb, L_za, L_zb, ⟨B_b29, F_za, F_zb, B_b0, B_b2, B_b3, B_b4⟩, bel, nLr⟩ hK_
     have kf := KeepsFrom.refl w32.heap.size wr
     have belr := bel
     have BC_ := B_b0
     have B_g0 := fun h => (bel.block _ (X_g0 h)).trans (W_g0 h)
     have N_b0_za : b0 ≠ za := soft_ne (RatP.soft F_za) B_b0 (by decide)
     have N_b0_zb : b0 ≠ zb := soft_ne (RatP.soft F_zb) B_b0 (by decide)
     have N_b2_za : b2 ≠ za := soft_ne (RatP.soft F_za) B_b2 (by decide)
     have N_b2_zb : b2 ≠ zb := soft_ne (RatP.soft F_zb) B_b2 (by decide)
     have N_b3_za : b3 ≠ za := soft_ne (RatP.soft F_za) B_b3 (by decide)
     have N_b3_zb : b3 ≠ zb := soft_ne (RatP.soft F_zb) B_b3 (by decide)
     have N_b4_za : b4 ≠ za := soft_ne (RatP.soft F_za) B_b4 (by decide)
     have N_b4_zb : b4 ≠ zb := soft_ne (RatP.soft F_zb) B_b4 (by decide)
     have N_b29_za : b29 ≠ za := soft_ne (RatP.soft F_za) B_b29 (by decide)
     have N_b29_zb : b29 ≠ zb := soft_ne (RatP.soft F_zb) B_b29 (by decide)
     refine wpIn_as (fr (.slice p_g0 l.length c_g0::sq u1 0 3 (.bool bad::U::d6::u12 1::U::U::U::U::U::U::sq u2 0 3 (u3 0::u3 1::.int .i64 k::u4 0::d21::d22::d23::d24::d25::d26::d27::d28::d29::u8 1::u8 0::U::u10 3::sq u10 0 3 (U::u12 0::.slice p_g0 l.length c_g0::.func (.func 108) #[] #[.pointer (some ⟨b0, 0, none⟩)]::.int .i64 (x.1.1 : Int)::rgV (rg x.1.2)::us 37))))) (by kernel_rfl) ?_
     refine wpIn_seq_k fun _ K33 => ?_
     refine go2_seqI (noLets fun _ _ h_ => h_) (by kernel_rfl) 1 rfl (Amb Z0 W) [] [] (Olds.nil _) (by kernel_rfl) ?_
     refine .mz rfl 41 (V := .int .i64 (x.1.1 : Int)) rfl ?_
     refine .dd (fun u => ⟨List.toArray (.slice p_g0 l.length c_g0::sq u1 0 3 (.bool bad::U::d6::u12 1::u 0::U::U::U::U::U::sq u2 0 3 (u3 0::u3 1::.int .i64 k::u4 0::d21::d22::d23::d24::d25::d26::d27::d28::d29::u8 1::u8 0::U::u10 3::sq u10 0 3 (U::u12 0::.slice p_g0 l.length c_g0::.func (.func 108) #[] #[.pointer (some ⟨b0, 0, none⟩)]::.int .i64 (x.1.1 : Int)::rgV (rg x.1.2)::us 37)))), []⟩) bel.size fun u14 w14 D => ?_
     have E14_0 := D.q 0
     replace B_b0 := D.k B_b0
     replace B_b2 := D.k B_b2
     replace B_b3 := D.k B_b3
     replace B_b4 := D.k B_b4
     replace B_b29 := D.k B_b29
     replace F_za := D.o L_za F_za
     replace F_zb := D.o L_zb F_zb
     replace B_g0 := fun h => D.k (B_g0 h)
     replace kf := kf.trans (D.d.base.keepsF (by simp))
     replace bel := D.d.base.bel0 bel bel.size
     replace nLr := Nat.le_trans nLr D.d.base.grow.size
     clear D
     refine K33 _ _ ?_
     refine go2_seqI (noLets fun _ _ h_ => h_) (by kernel_rfl) 2 rfl (Amb Z0 W) [] [] (Olds.nil _) (by kernel_rfl) ?_
     refine .al rfl zG ?_
     refine .so rfl 0 (fun H => ⟨H.r 9 0, H.v 42 (rgV (rg x.1.2))⟩) ?_
     refine .dd (fun u => ⟨List.toArray (.slice p_g0 l.length c_g0::sq u1 0 3 (.bool bad::U::d6::u12 1::u14 0::u 0::U::U::U::U::sq u2 0 3 (u3 0::u3 1::.int .i64 k::u4 0::d21::d22::d23::d24::d25::d26::d27::d28::d29::u8 1::u8 0::U::u10 3::sq u10 0 3 (U::u12 0::.slice p_g0 l.length c_g0::.func (.func 108) #[] #[.pointer (some ⟨b0, 0, none⟩)]::.int .i64 (x.1.1 : Int)::rgV (rg x.1.2)::us 37)))), []⟩) bel.size fun u15 w15 D => ?_
     obtain ⟨b34, E15_0, A_b34, B_b34⟩ := D.st 1
     have N_b3_b34 := D.n1 0 (lt_of B_b3) E15_0
     have N_b4_b34 := D.n1 0 (lt_of B_b4) E15_0
     have N_b29_b34 := D.n1 0 (lt_of B_b29) E15_0
     replace B_b0 := D.k B_b0
     replace B_b2 := D.k B_b2
     replace B_b3 := D.k B_b3
     replace B_b4 := D.k B_b4
     replace B_b29 := D.k B_b29
     replace F_za := D.o L_za F_za
     replace F_zb := D.o L_zb F_zb
     replace B_g0 := fun h => D.k (B_g0 h)
     replace kf := kf.trans (D.d.base.keepsF (by simp))
     have A9_b34 : w32.heap.size ≤ b34 := Nat.le_trans nLr (D.lo 0 E15_0)
     replace bel := D.d.base.bel0 bel bel.size
     replace nLr := Nat.le_trans nLr D.d.base.grow.size
     clear D
     exact hK_ _ _ kf ⟨below_between belr bel kf.size, B_b0.trans BC_.symm⟩ ⟨za, zb, z, hz0, hzb, L_za, L_zb, ⟨B_b29, F_za, F_zb, B_b0, B_b2, B_b3, B_b4⟩, bel, nLr⟩ ⟨b34, ⟨by simp only [E14_0, E15_0], A9_b34⟩, B_b34⟩
    ·
     clear B_b2 B_b3 B_b4 B_b29 B_b0 F_b27 F_b28 bel B_g0
     rintro lp_ pre x _ wr hl_ hr_ ⟨za, zb, z, hz0, hzb, L_za, L_zb, ⟨B_b29, F_za, F_zb, B_b0, B_b2, B_b3, B_b4⟩, bel, nLr⟩ ⟨q_, ⟨rfl, A9_q_⟩, B_q_⟩ hlt_
     have kf := KeepsFrom.refl w32.heap.size wr
     have xb := x.2
     have belr := bel
     have BC_ := B_b0
     have B_g0 := fun h => (bel.block _ (X_g0 h)).trans (W_g0 h)
     have N_b0_za : b0 ≠ za := soft_ne (RatP.soft F_za) B_b0 (by decide)
     have N_b0_zb : b0 ≠ zb := soft_ne (RatP.soft F_zb) B_b0 (by decide)
     have N_b2_za : b2 ≠ za := soft_ne (RatP.soft F_za) B_b2 (by decide)
     have N_b2_zb : b2 ≠ zb := soft_ne (RatP.soft F_zb) B_b2 (by decide)
     have N_b3_za : b3 ≠ za := soft_ne (RatP.soft F_za) B_b3 (by decide)
     have N_b3_zb : b3 ≠ zb := soft_ne (RatP.soft F_zb) B_b3 (by decide)
     have N_b4_za : b4 ≠ za := soft_ne (RatP.soft F_za) B_b4 (by decide)
     have N_b4_zb : b4 ≠ zb := soft_ne (RatP.soft F_zb) B_b4 (by decide)
     have N_b29_za : b29 ≠ za := soft_ne (RatP.soft F_za) B_b29 (by decide)
     have N_b29_zb : b29 ≠ zb := soft_ne (RatP.soft F_zb) B_b29 (by decide)
     have A_q_ := Nat.le_trans nL A9_q_
     have N_b0_q_ : b0 ≠ q_ := Nat.ne_of_lt (Nat.lt_of_lt_of_le lt_b0 A9_q_)
     have N_b2_q_ : b2 ≠ q_ := Nat.ne_of_lt (Nat.lt_of_lt_of_le lt_b2 A9_q_)
     have N_b3_q_ : b3 ≠ q_ := Nat.ne_of_lt (Nat.lt_of_lt_of_le lt_b3 A9_q_)
     have N_b4_q_ : b4 ≠ q_ := Nat.ne_of_lt (Nat.lt_of_lt_of_le lt_b4 A9_q_)
     have N_b29_q_ : b29 ≠ q_ := Nat.ne_of_lt (Nat.lt_of_lt_of_le lt_b29 A9_q_)
     have N_q__za : q_ ≠ za := soft_ne (RatP.soft F_za) B_q_ (by decide)
     have N_q__zb : q_ ≠ zb := soft_ne (RatP.soft F_zb) B_q_ (by decide)
     refine wpIn_block ?_
     refine wpIn_seq_k fun _ K35 => ?_
     refine wpIn_seq_k fun _ K36 => ?_
     refine go2_seqI (noLets fun _ _ h_ => h_) (by kernel_rfl) 5 rfl (Amb Z0 W) [] [] (Olds.nil _) (by kernel_rfl) ?_
     refine .mz rfl 8 (V := .int .i64 (x.1.1 : Int)) rfl ?_
     refine .e rfl (V := .slice p_g0 l.length c_g0) (fun H => x_ldc (H.z 1 E1_0) (H.b B_b2)) ?_
     refine .e rfl (V := .int .i64 ((l.length : Nat) : Int)) (fun H => by have e44 := H.g 44 1; clear H; go_simp) ?_
     refine .e rfl (V := .int .i64 (((l.length : Nat) : Int) - 1)) (fun H => x_ari (H.g 45 2) (H.c _) (IntWalk.i64_in _ (by omega))) ?_
     refine .e rfl (V := .bool (decide ((x.1.1 : Int) < (((l.length : Nat) : Int) - 1)))) (fun H => x_cmp (H.g 43 0) (H.g 46 3)) ?_
     refine .dd (fun u => ⟨List.toArray (.slice p_g0 l.length c_g0::sq u1 0 3 (.bool bad::U::d6::u12 1::.int .i64 (x.1.1 : Int)::.pointer (some ⟨q_, 0, none⟩)::U::U::U::U::sq u2 0 3 (u3 0::u3 1::.int .i64 k::u4 0::d21::d22::d23::d24::d25::d26::d27::d28::d29::u8 1::u8 0::U::u10 3::sq u10 0 3 (U::u12 0::.slice p_g0 l.length c_g0::.func (.func 108) #[] #[.pointer (some ⟨b0, 0, none⟩)]::.int .i64 (x.1.1 : Int)::rgV (rg x.1.2)::sq u 0 5 (us 32))))), []⟩) bel.size fun u16 w16 D => ?_
     have E16_0 := D.q 0
     have E16_1 := D.q 1
     have E16_2 := D.q 2
     have E16_3 := D.q 3
     have E16_4 := D.q 4
     replace B_b0 := D.k B_b0
     replace B_b2 := D.k B_b2
     replace B_b3 := D.k B_b3
     replace B_b4 := D.k B_b4
     replace B_b29 := D.k B_b29
     replace B_q_ := D.k B_q_
     replace F_za := D.o L_za F_za
     replace F_zb := D.o L_zb F_zb
     replace B_g0 := fun h => D.k (B_g0 h)
     replace kf := kf.trans (D.d.base.keepsF (by simp))
     replace bel := D.d.base.bel0 bel bel.size
     replace nLr := Nat.le_trans nLr D.d.base.grow.size
     clear D
     refine K36 _ _ ?_
     rcases Bool.eq_false_or_eq_true (decide ((x.1.1 : Int) < (((l.length : Nat) : Int) - 1))) with c37 | c37
     ·
      refine wpIn_cond_true ((E16_4).trans (congrArg Value.bool c37)) ?_
      have dc37 := of_decide_eq_true c37
      refine wpIn_seq_k fun _ K38 => ?_
      refine wpIn_seq_k fun _ K39 => ?_
      refine go2_seqI (noLets fun _ _ h_ => h_) (by kernel_rfl) 2 rfl (Amb Z0 W) [] [] (Olds.nil _) (by kernel_rfl) ?_
      refine .lr rfl 7 E12_1 B_b29 ?_
      refine .cK rfl Tryz.func53 (fun H => ⟨_, ar1 (H.g 48 0), xZero _ (CxP.mk (VP.any _ (H.was _ [] (VP.at F_za L_za))) (VP.any _ (H.was _ [] (VP.at F_zb L_zb))))⟩) ?_
      refine .dd (fun u => ⟨List.toArray (.slice p_g0 l.length c_g0::sq u1 0 3 (.bool bad::U::d6::u12 1::.int .i64 (x.1.1 : Int)::.pointer (some ⟨q_, 0, none⟩)::U::U::U::U::sq u2 0 3 (u3 0::u3 1::.int .i64 k::u4 0::d21::d22::d23::d24::d25::d26::d27::d28::d29::u8 1::u8 0::U::u10 3::sq u10 0 3 (U::u12 0::.slice p_g0 l.length c_g0::.func (.func 108) #[] #[.pointer (some ⟨b0, 0, none⟩)]::.int .i64 (x.1.1 : Int)::rgV (rg x.1.2)::sq u16 0 5 (u 0::u 1::us 30))))), []⟩) bel.size fun u17 w17 D => ?_
      have E17_0 := D.q 0
      have E17_1 := D.q 1
      replace B_b0 := D.k B_b0
      replace B_b2 := D.k B_b2
      replace B_b3 := D.k B_b3
      replace B_b4 := D.k B_b4
      replace B_b29 := D.k B_b29
      replace B_q_ := D.k B_q_
      replace F_za := D.o L_za F_za
      replace F_zb := D.o L_zb F_zb
      replace B_g0 := fun h => D.k (B_g0 h)
      replace kf := kf.trans (D.d.base.keepsF (by simp))
      replace bel := D.d.base.bel0 bel bel.size
      replace nLr := Nat.le_trans nLr D.d.base.grow.size
      clear D
      refine K39 _ _ ?_
      rcases Bool.eq_false_or_eq_true z.zero with c40 | c40
      ·
       refine wpIn_cond_true ((E17_1).trans (congrArg Value.bool c40)) ?_
       refine wpIn_seq_k fun _ K41 => ?_
       refine go2_seqI (noLets fun _ _ h_ => h_) (by kernel_rfl) 3 rfl (Amb Z0 W) [(b3, 1), (b4, 2)] [1, 2] (Olds.cons (R0 := fun _ => True) (lt_of B_b3) (by simp [(Ne.symm N_b3_b4)]) (Olds.one (lt_of B_b4))) (by kernel_rfl) ?_
       refine .e rfl (V := .agg zG) (fun H => by clear H; go_simp) ?_
       refine .sz rfl 0 B_b3 (lt_of B_b3) (by intro y k hy; match y, hy with | 0, hy => rfl | 1, hy => simp at hy; exact absurd hy.1 (Ne.symm N_b3_b4)) (fun H => ⟨(H.z 2 E1_1), (H.g 50 0)⟩) ?_
       refine .sc rfl 1 (#[.int .i64 5]) B_b4 (lt_of B_b4) (by intro y k hy; match y, hy with | 0, hy => simp at hy; exact absurd hy.1 N_b3_b4 | 1, hy => rfl) (fun H => ⟨(H.z 3 E1_2), (H.c _)⟩) ?_
       refine .dd (fun u => ⟨List.toArray (.slice p_g0 l.length c_g0::sq u1 0 3 (.bool bad::U::d6::u12 1::.int .i64 (x.1.1 : Int)::.pointer (some ⟨q_, 0, none⟩)::U::U::U::U::sq u2 0 3 (u3 0::u3 1::.int .i64 k::u4 0::d21::d22::d23::d24::d25::d26::d27::d28::d29::u8 1::u8 0::U::u10 3::sq u10 0 3 (U::u12 0::.slice p_g0 l.length c_g0::.func (.func 108) #[] #[.pointer (some ⟨b0, 0, none⟩)]::.int .i64 (x.1.1 : Int)::rgV (rg x.1.2)::sq u16 0 5 (u17 0::u17 1::u 0::us 29))))), []⟩) bel.size fun u18 w18 D => ?_
       have E18_0 := D.q 0
       replace B_b0 := D.kk B_b0 (no_cons N_b3_b0 (no_cons N_b4_b0 (no_nil _)))
       replace B_b2 := D.kk B_b2 (no_cons (Ne.symm N_b2_b3) (no_cons (Ne.symm N_b2_b4) (no_nil _)))
       replace B_b3 := D.ol 1
       replace B_b4 := D.ol 2
       replace B_b29 := D.kk B_b29 (no_cons N_b3_b29 (no_cons N_b4_b29 (no_nil _)))
       replace B_q_ := D.kk B_q_ (no_cons N_b3_q_ (no_cons N_b4_q_ (no_nil _)))
       replace F_za := D.o L_za F_za
       replace F_zb := D.o L_zb F_zb
       replace B_g0 := fun h => D.kk (B_g0 h) (no_cons (Nat.ne_of_gt (Nat.lt_of_lt_of_le (X_g0 h) A_b3)) (no_cons (Nat.ne_of_gt (Nat.lt_of_lt_of_le (X_g0 h) A_b4)) (no_nil _)))
       replace kf := kf.trans (D.d.base.keepsF (by simp; omega))
       replace bel := D.d.base.bel bel bel.size (by simp; omega)
       replace nLr := Nat.le_trans nLr D.d.base.grow.size
       clear D
       refine K41 _ _ ?_
       refine wpIn_ret ?_
       exact ⟨kf, rfl, _, _, (zFd_snoc hz0 x).trans (zs_zero c37 c40), by decide, ⟨B_b3, B_b4⟩, bel⟩
      ·
       refine wpIn_cond_false ((E17_1).trans (congrArg Value.bool c40)) ?_
       refine wpIn_skip ?_
       refine K38 _ _ ?_
       refine wpIn_seq_k fun _ K42 => ?_
       refine go2_drawnI (noLets fun _ _ h_ => h_) (by kernel_rfl) (by kernel_rfl) 4 rfl (Amb Z0 W) [(b29, 3)] [3] (Olds.one (lt_of B_b29)) (by kernel_rfl) ?_
       refine .cR rfl [] Tryz.func51 (fun H => ⟨_, ar2 (H.c (.int .i64 1)) (H.c (.int .i64 0)), xInt _ _ (by first | omega | exact zero_norm c40 | (have k1 := hc_div (Cx.ofInt (1 : Int) (0 : Int)) z; omega) | (have k1 := gerr_ht x_x; omega) | (have k1 := gerr_ht x_x; have k2 := hc_add ((Cx.ofInt (1 : Int) (0 : Int)).div z) x.1.2; omega) | (have k2 := hc_add z x.1.2; omega)) (by first | omega | exact zero_norm c40 | (have k1 := hc_div (Cx.ofInt (1 : Int) (0 : Int)) z; omega) | (have k1 := gerr_ht x_x; omega) | (have k1 := gerr_ht x_x; have k2 := hc_add ((Cx.ofInt (1 : Int) (0 : Int)).div z) x.1.2; omega) | (have k2 := hc_add z x.1.2; omega)) (by first | omega | exact zero_norm c40 | (have k1 := hc_div (Cx.ofInt (1 : Int) (0 : Int)) z; omega) | (have k1 := gerr_ht x_x; omega) | (have k1 := gerr_ht x_x; have k2 := hc_add ((Cx.ofInt (1 : Int) (0 : Int)).div z) x.1.2; omega) | (have k2 := hc_add z x.1.2; omega)) (by first | omega | exact zero_norm c40 | (have k1 := hc_div (Cx.ofInt (1 : Int) (0 : Int)) z; omega) | (have k1 := gerr_ht x_x; omega) | (have k1 := gerr_ht x_x; have k2 := hc_add ((Cx.ofInt (1 : Int) (0 : Int)).div z) x.1.2; omega) | (have k2 := hc_add z x.1.2; omega))⟩) ?_
       refine .e rfl (fun H => x_ldr (H.z 7 E12_1) (H.bo B_b29 0 3)) ?_
       refine .cR rfl [0] Tryz.func54 (fun H => ⟨_, ar2 (H.r 51 0) (H.g 52 1), xDiv _ _ (SV.sub [0] (H.a 0 rfl) rfl) (CxP.mk (H.was _ [0] (VP.at F_za L_za)) (H.was _ [0] (VP.at F_zb L_zb))) (by first | omega | exact zero_norm c40 | (have k1 := hc_div (Cx.ofInt (1 : Int) (0 : Int)) z; omega) | (have k1 := gerr_ht x_x; omega) | (have k1 := gerr_ht x_x; have k2 := hc_add ((Cx.ofInt (1 : Int) (0 : Int)).div z) x.1.2; omega) | (have k2 := hc_add z x.1.2; omega)) (by first | omega | exact zero_norm c40 | (have k1 := hc_div (Cx.ofInt (1 : Int) (0 : Int)) z; omega) | (have k1 := gerr_ht x_x; omega) | (have k1 := gerr_ht x_x; have k2 := hc_add ((Cx.ofInt (1 : Int) (0 : Int)).div z) x.1.2; omega) | (have k2 := hc_add z x.1.2; omega))⟩) ?_
       refine Go2.storeOld (i := 3) 0 b29 rfl rfl rfl ⟨_, _, _, B_b29, rfl⟩ (SP.old 0 b29 [2] (fun u => #[((u 2).v.cells.getD 0 undef), ((u 2).v.cells.getD 1 undef)]) 81 (by intro u u' h; simp [h 2 (by simp)]) (lt_of B_b29) (by intro y k hy; match y, hy with | 0, hy => rfl)) (fun u μ ρ H => ?_) ?_
       · have e7 := H.z 7 E12_1; have e53 := H.r 53 2; have hb := H.blkOld B_b29 0 3 rfl (.inl rfl)
         obtain ⟨x1, x2, h1, h2, h3⟩ := (H.a 2 rfl)
         have o1 := VP1.rat h2
         have o2 := VP1.rat h3
         rw [h1] at e53
         refine ⟨μ.setRow b29 #[x1, x2], ex_store_row 81 _ _ rfl e7 e53 hb (by kernel_rfl) rfl (by simp [o1, o2]), fun g => ?_, setRow_only _ _ _⟩
         show (World.setRow _ _ _).heap[b29]? = _
         rw [setRow_at hb]; try simp [upd, h1, Value.cells]
       refine .dd (fun u => ⟨List.toArray (.slice p_g0 l.length c_g0::sq u1 0 3 (.bool bad::U::d6::u12 1::.int .i64 (x.1.1 : Int)::.pointer (some ⟨q_, 0, none⟩)::U::U::U::U::sq u2 0 3 (u3 0::u3 1::.int .i64 k::u4 0::d21::d22::d23::d24::d25::d26::d27::d28::d29::u8 1::u8 0::U::u10 3::sq u10 0 3 (U::u12 0::.slice p_g0 l.length c_g0::.func (.func 108) #[] #[.pointer (some ⟨b0, 0, none⟩)]::.int .i64 (x.1.1 : Int)::rgV (rg x.1.2)::sq u16 0 5 (u17 0::u17 1::U::sq u 0 3 (us 26)))))), []⟩) bel.size fun u19 w19 D => ?_
       obtain ⟨b43, b44, E19_0, L_b43, L_b44, F_b43, F_b44⟩ := CxP.elim (D.rr 0)
       obtain ⟨b45, b46, E19_2, L_b45, L_b46, F_b45, F_b46⟩ := CxP.elim (D.rr 2)
       have E19_1 := D.q 1
       replace B_b0 := D.k1 B_b0 N_b29_b0
       replace B_b2 := D.k1 B_b2 (Ne.symm N_b2_b29)
       replace B_b3 := D.k1 B_b3 (Ne.symm N_b3_b29)
       replace B_b4 := D.k1 B_b4 (Ne.symm N_b4_b29)
       replace B_b29 : w19.heap[b29]? = _ := (D.a 3 rfl)
       simp only [Value.cells, E19_0, E19_2] at B_b29
       replace B_q_ := D.k1 B_q_ N_b29_q_
       replace F_za := D.o L_za F_za
       replace F_zb := D.o L_zb F_zb
       replace B_g0 := fun h => D.kk (B_g0 h) (no_cons (Nat.ne_of_gt (Nat.lt_of_lt_of_le (X_g0 h) A_b29)) (no_nil _))
       replace kf := kf.trans (D.d.base.keepsF (by simp; omega))
       replace bel := D.d.base.bel bel bel.size (by simp; omega)
       replace nLr := Nat.le_trans nLr D.d.base.grow.size
       clear D
       refine K42 _ _ ?_
       refine wpIn_seq_k fun _ K47 => ?_
       refine go2_seqI (noLets fun _ _ h_ => h_) (by kernel_rfl) 8 rfl (Amb Z0 W) [] [] (Olds.nil _) (by kernel_rfl) ?_
       refine .lr rfl 7 E12_1 B_b29 ?_
       refine .cK rfl Tryz.func55 (fun H => ⟨_, ar1 (H.g 55 0), xGauss _ (CxP.mk (VP.any _ (H.was _ [] (VP.at F_b45 L_b45))) (VP.any _ (H.was _ [] (VP.at F_b46 L_b46)))) (by first | omega | exact zero_norm c40 | (have k1 := hc_div (Cx.ofInt (1 : Int) (0 : Int)) z; omega) | (have k1 := gerr_ht x_x; omega) | (have k1 := gerr_ht x_x; have k2 := hc_add ((Cx.ofInt (1 : Int) (0 : Int)).div z) x.1.2; omega) | (have k2 := hc_add z x.1.2; omega))⟩) ?_
       refine .mv rfl 1 ?_
       refine .e rfl (V := rgV (gcut ((Cx.ofInt (1 : Int) (0 : Int)).div z))) (fun H => x_ex (H.g 54 2)) ?_
       refine .e rfl (V := .int .i64 (gerr ((Cx.ofInt (1 : Int) (0 : Int)).div z))) (fun H => x_ex (H.g 54 2)) ?_
       refine .al rfl zG ?_
       refine .so rfl 5 (fun H => ⟨H.r 10 5, H.g 57 3⟩) ?_
       refine .mv rfl 4 ?_
       refine .dd (fun u => ⟨List.toArray (.slice p_g0 l.length c_g0::sq u1 0 3 (.bool bad::U::d6::u12 1::.int .i64 (x.1.1 : Int)::.pointer (some ⟨q_, 0, none⟩)::u 5::u 7::U::U::sq u2 0 3 (u3 0::u3 1::.int .i64 k::u4 0::d21::d22::d23::d24::d25::d26::d27::d28::d29::u8 1::u8 0::U::u10 3::sq u10 0 3 (U::u12 0::.slice p_g0 l.length c_g0::.func (.func 108) #[] #[.pointer (some ⟨b0, 0, none⟩)]::.int .i64 (x.1.1 : Int)::rgV (rg x.1.2)::sq u16 0 5 (u17 0::u17 1::U::sq u19 0 3 (u 2::u 0::u 1::u 3::u 4::us 21)))))), []⟩) bel.size fun u20 w20 D => ?_
       obtain ⟨b48, E20_5, A_b48, B_b48⟩ := D.st 6
       have E20_0 := D.q 0
       have E20_1 := D.q 1
       have E20_2 := D.q 2
       have E20_3 := D.q 3
       have E20_4 := D.q 4
       have E20_7 := D.q 7
       have N_b3_b48 := D.n1 5 (lt_of B_b3) E20_5
       have N_b4_b48 := D.n1 5 (lt_of B_b4) E20_5
       have N_b29_b48 := D.n1 5 (lt_of B_b29) E20_5
       replace B_b0 := D.k B_b0
       replace B_b2 := D.k B_b2
       replace B_b3 := D.k B_b3
       replace B_b4 := D.k B_b4
       replace B_b29 := D.k B_b29
       replace B_q_ := D.k B_q_
       replace F_za := D.o L_za F_za
       replace F_zb := D.o L_zb F_zb
       replace F_b43 := D.o L_b43 F_b43
       replace F_b44 := D.o L_b44 F_b44
       replace F_b45 := D.o L_b45 F_b45
       replace F_b46 := D.o L_b46 F_b46
       replace B_g0 := fun h => D.k (B_g0 h)
       replace kf := kf.trans (D.d.base.keepsF (by simp))
       have A9_b48 : w32.heap.size ≤ b48 := Nat.le_trans nLr (D.lo 5 E20_5)
       replace bel := D.d.base.bel0 bel bel.size
       replace nLr := Nat.le_trans nLr D.d.base.grow.size
       clear D
       refine K47 _ _ ?_
       refine wpIn_seq_k fun _ K49 => ?_
       refine go2_seqI (noLets fun _ _ h_ => h_) (by kernel_rfl) 2 rfl (Amb Z0 W) [] [] (Olds.nil _) (by kernel_rfl) ?_
       refine .mz rfl 11 E20_7 ?_
       refine .e rfl (V := .bool ((gerr ((Cx.ofInt (1 : Int) (0 : Int)).div z)) != 0)) (fun H => x_cmp (H.g 59 0) (H.c _)) ?_
       refine .dd (fun u => ⟨List.toArray (.slice p_g0 l.length c_g0::sq u1 0 3 (.bool bad::U::d6::u12 1::.int .i64 (x.1.1 : Int)::.pointer (some ⟨q_, 0, none⟩)::u20 5::u20 7::U::U::sq u2 0 3 (u3 0::u3 1::.int .i64 k::u4 0::d21::d22::d23::d24::d25::d26::d27::d28::d29::u8 1::u8 0::U::u10 3::sq u10 0 3 (U::u12 0::.slice p_g0 l.length c_g0::.func (.func 108) #[] #[.pointer (some ⟨b0, 0, none⟩)]::.int .i64 (x.1.1 : Int)::rgV (rg x.1.2)::sq u16 0 5 (u17 0::u17 1::U::sq u19 0 3 (u20 2::u20 0::u20 1::u20 3::u20 4::u 0::u 1::us 19)))))), []⟩) bel.size fun u21 w21 D => ?_
       have E21_0 := D.q 0
       have E21_1 := D.q 1
       replace B_b0 := D.k B_b0
       replace B_b2 := D.k B_b2
       replace B_b3 := D.k B_b3
       replace B_b4 := D.k B_b4
       replace B_b29 := D.k B_b29
       replace B_q_ := D.k B_q_
       replace B_b48 := D.k B_b48
       replace F_za := D.o L_za F_za
       replace F_zb := D.o L_zb F_zb
       replace F_b43 := D.o L_b43 F_b43
       replace F_b44 := D.o L_b44 F_b44
       replace F_b45 := D.o L_b45 F_b45
       replace F_b46 := D.o L_b46 F_b46
       replace B_g0 := fun h => D.k (B_g0 h)
       replace kf := kf.trans (D.d.base.keepsF (by simp))
       replace bel := D.d.base.bel0 bel bel.size
       replace nLr := Nat.le_trans nLr D.d.base.grow.size
       clear D
       refine K49 _ _ ?_
       rcases Bool.eq_false_or_eq_true ((gerr ((Cx.ofInt (1 : Int) (0 : Int)).div z)) != 0) with c50 | c50
       ·
        refine wpIn_cond_true ((E21_1).trans (congrArg Value.bool c50)) ?_
        refine wpIn_seq_k fun _ K51 => ?_
        refine go2_seqI (noLets fun _ _ h_ => h_) (by kernel_rfl) 4 rfl (Amb Z0 W) [(b3, 2), (b4, 3)] [2, 3] (Olds.cons (R0 := fun _ => True) (lt_of B_b3) (by simp [(Ne.symm N_b3_b4)]) (Olds.one (lt_of B_b4))) (by kernel_rfl) ?_
        refine .e rfl (V := .agg zG) (fun H => by clear H; go_simp) ?_
        refine .mz rfl 11 E20_7 ?_
        refine .sz rfl 0 B_b3 (lt_of B_b3) (by intro y k hy; match y, hy with | 0, hy => rfl | 1, hy => simp at hy; exact absurd hy.1 (Ne.symm N_b3_b4)) (fun H => ⟨(H.z 2 E1_1), (H.g 61 0)⟩) ?_
        refine .sc rfl 1 (#[.int .i64 (gerr ((Cx.ofInt (1 : Int) (0 : Int)).div z))]) B_b4 (lt_of B_b4) (by intro y k hy; match y, hy with | 0, hy => simp at hy; exact absurd hy.1 N_b3_b4 | 1, hy => rfl) (fun H => ⟨(H.z 3 E1_2), (H.g 62 1)⟩) ?_
        refine .dd (fun u => ⟨List.toArray (.slice p_g0 l.length c_g0::sq u1 0 3 (.bool bad::U::d6::u12 1::.int .i64 (x.1.1 : Int)::.pointer (some ⟨q_, 0, none⟩)::u20 5::u20 7::U::U::sq u2 0 3 (u3 0::u3 1::.int .i64 k::u4 0::d21::d22::d23::d24::d25::d26::d27::d28::d29::u8 1::u8 0::U::u10 3::sq u10 0 3 (U::u12 0::.slice p_g0 l.length c_g0::.func (.func 108) #[] #[.pointer (some ⟨b0, 0, none⟩)]::.int .i64 (x.1.1 : Int)::rgV (rg x.1.2)::sq u16 0 5 (u17 0::u17 1::U::sq u19 0 3 (u20 2::u20 0::u20 1::u20 3::u20 4::u21 0::u21 1::u 0::u 1::us 17)))))), []⟩) bel.size fun u22 w22 D => ?_
        have E22_0 := D.q 0
        have E22_1 := D.q 1
        replace B_b0 := D.kk B_b0 (no_cons N_b3_b0 (no_cons N_b4_b0 (no_nil _)))
        replace B_b2 := D.kk B_b2 (no_cons (Ne.symm N_b2_b3) (no_cons (Ne.symm N_b2_b4) (no_nil _)))
        replace B_b3 := D.ol 2
        replace B_b4 := D.ol 3
        replace B_b29 := D.kk B_b29 (no_cons N_b3_b29 (no_cons N_b4_b29 (no_nil _)))
        replace B_q_ := D.kk B_q_ (no_cons N_b3_q_ (no_cons N_b4_q_ (no_nil _)))
        replace B_b48 := D.kk B_b48 (no_cons N_b3_b48 (no_cons N_b4_b48 (no_nil _)))
        replace F_za := D.o L_za F_za
        replace F_zb := D.o L_zb F_zb
        replace F_b43 := D.o L_b43 F_b43
        replace F_b44 := D.o L_b44 F_b44
        replace F_b45 := D.o L_b45 F_b45
        replace F_b46 := D.o L_b46 F_b46
        replace B_g0 := fun h => D.kk (B_g0 h) (no_cons (Nat.ne_of_gt (Nat.lt_of_lt_of_le (X_g0 h) A_b3)) (no_cons (Nat.ne_of_gt (Nat.lt_of_lt_of_le (X_g0 h) A_b4)) (no_nil _)))
        replace kf := kf.trans (D.d.base.keepsF (by simp; omega))
        replace bel := D.d.base.bel bel bel.size (by simp; omega)
        replace nLr := Nat.le_trans nLr D.d.base.grow.size
        clear D
        refine K51 _ _ ?_
        refine wpIn_ret ?_
        exact ⟨kf, rfl, _, _, (zFd_snoc hz0 x).trans (zs_inv c37 c40 c50), gerr_ne c50, ⟨B_b3, B_b4⟩, bel⟩
       ·
        refine wpIn_cond_false ((E21_1).trans (congrArg Value.bool c50)) ?_
        refine wpIn_skip ?_
        refine K35 _ _ ?_
        refine wpIn_seq_k fun _ K52 => ?_
        refine go2_drawnI (noLets fun _ _ h_ => h_) (by kernel_rfl) (by kernel_rfl) 5 rfl (Amb Z0 W) [(b29, 4)] [4] (Olds.one (lt_of B_b29)) (by kernel_rfl) ?_
        refine .e rfl (fun H => x_ldr (H.z 7 E12_1) (H.bo B_b29 0 4)) ?_
        refine .e rfl (fun H => x_ldr (H.v 9 (.pointer (some ⟨q_, 0, none⟩))) (H.b1 B_q_ N_b29_q_)) ?_
        refine .cR rfl [] Tryz.func57 (fun H => ⟨_, ar1 (H.g 64 1), xOf _ (by first | omega | exact zero_norm c40 | (have k1 := hc_div (Cx.ofInt (1 : Int) (0 : Int)) z; omega) | (have k1 := gerr_ht c50; omega) | (have k1 := gerr_ht c50; have k2 := hc_add ((Cx.ofInt (1 : Int) (0 : Int)).div z) x.1.2; omega) | (have k2 := hc_add z x.1.2; omega))⟩) ?_
        refine .cR rfl [2] Tryz.func56 (fun H => ⟨_, ar2 (H.g 63 0) (H.r 65 2), xAdd _ _ (CxP.mk (H.was _ [2] (VP.at F_b45 L_b45)) (H.was _ [2] (VP.at F_b46 L_b46))) (SV.sub [2] (H.a 2 rfl) rfl) (by first | omega | exact zero_norm c40 | (have k1 := hc_div (Cx.ofInt (1 : Int) (0 : Int)) z; omega) | (have k1 := gerr_ht c50; omega) | (have k1 := gerr_ht c50; have k2 := hc_add ((Cx.ofInt (1 : Int) (0 : Int)).div z) x.1.2; omega) | (have k2 := hc_add z x.1.2; omega))⟩) ?_
        refine Go2.storeOld (i := 4) 0 b29 rfl rfl rfl ⟨_, _, _, B_b29, rfl⟩ (SP.old 0 b29 [3] (fun u => #[((u 3).v.cells.getD 0 undef), ((u 3).v.cells.getD 1 undef)]) 81 (by intro u u' h; simp [h 3 (by simp)]) (lt_of B_b29) (by intro y k hy; match y, hy with | 0, hy => rfl)) (fun u μ ρ H => ?_) ?_
        · have e7 := H.z 7 E12_1; have e66 := H.r 66 3; have hb := H.blkOld B_b29 0 4 rfl (.inl rfl)
          obtain ⟨x1, x2, h1, h2, h3⟩ := (H.a 3 rfl)
          have o1 := VP1.rat h2
          have o2 := VP1.rat h3
          rw [h1] at e66
          refine ⟨μ.setRow b29 #[x1, x2], ex_store_row 81 _ _ rfl e7 e66 hb (by kernel_rfl) rfl (by simp [o1, o2]), fun g => ?_, setRow_only _ _ _⟩
          show (World.setRow _ _ _).heap[b29]? = _
          rw [setRow_at hb]; try simp [upd, h1, Value.cells]
        refine .dd (fun u => ⟨List.toArray (.slice p_g0 l.length c_g0::sq u1 0 3 (.bool bad::U::d6::u12 1::.int .i64 (x.1.1 : Int)::.pointer (some ⟨q_, 0, none⟩)::u20 5::u20 7::U::U::sq u2 0 3 (u3 0::u3 1::.int .i64 k::u4 0::d21::d22::d23::d24::d25::d26::d27::d28::d29::u8 1::u8 0::U::u10 3::sq u10 0 3 (U::u12 0::.slice p_g0 l.length c_g0::.func (.func 108) #[] #[.pointer (some ⟨b0, 0, none⟩)]::.int .i64 (x.1.1 : Int)::rgV (rg x.1.2)::sq u16 0 5 (u17 0::u17 1::U::sq u19 0 3 (u20 2::u20 0::u20 1::u20 3::u20 4::u21 0::u21 1::U::U::sq u 0 4 (us 13))))))), []⟩) bel.size fun u23 w23 D => ?_
        obtain ⟨b53, b54, E23_2, L_b53, L_b54, F_b53, F_b54⟩ := CxP.elim (D.rr 2)
        obtain ⟨b55, b56, E23_3, L_b55, L_b56, F_b55, F_b56⟩ := CxP.elim (D.rr 3)
        have E23_0 := D.q 0
        have E23_1 := D.q 1
        replace B_b0 := D.k1 B_b0 N_b29_b0
        replace B_b2 := D.k1 B_b2 (Ne.symm N_b2_b29)
        replace B_b3 := D.k1 B_b3 (Ne.symm N_b3_b29)
        replace B_b4 := D.k1 B_b4 (Ne.symm N_b4_b29)
        replace B_b29 : w23.heap[b29]? = _ := (D.a 4 rfl)
        simp only [Value.cells, E23_2, E23_3] at B_b29
        replace B_q_ := D.k1 B_q_ N_b29_q_
        replace B_b48 := D.k1 B_b48 N_b29_b48
        replace F_za := D.o L_za F_za
        replace F_zb := D.o L_zb F_zb
        replace F_b43 := D.o L_b43 F_b43
        replace F_b44 := D.o L_b44 F_b44
        replace F_b45 := D.o L_b45 F_b45
        replace F_b46 := D.o L_b46 F_b46
        replace B_g0 := fun h => D.kk (B_g0 h) (no_cons (Nat.ne_of_gt (Nat.lt_of_lt_of_le (X_g0 h) A_b29)) (no_nil _))
        replace kf := kf.trans (D.d.base.keepsF (by simp; omega))
        replace bel := D.d.base.bel bel bel.size (by simp; omega)
        replace nLr := Nat.le_trans nLr D.d.base.grow.size
        clear D
        refine K52 _ _ ?_
        refine wpIn_seq_k fun _ K57 => ?_
        refine go2_seqI (noLets fun _ _ h_ => h_) (by kernel_rfl) 8 rfl (Amb Z0 W) [] [] (Olds.nil _) (by kernel_rfl) ?_
        refine .lr rfl 7 E12_1 B_b29 ?_
        refine .cK rfl Tryz.func55 (fun H => ⟨_, ar1 (H.g 68 0), xGauss _ (CxP.mk (VP.any _ (H.was _ [] (VP.at F_b55 L_b55))) (VP.any _ (H.was _ [] (VP.at F_b56 L_b56)))) (by first | omega | exact zero_norm c40 | (have k1 := hc_div (Cx.ofInt (1 : Int) (0 : Int)) z; omega) | (have k1 := gerr_ht c50; omega) | (have k1 := gerr_ht c50; have k2 := hc_add ((Cx.ofInt (1 : Int) (0 : Int)).div z) x.1.2; omega) | (have k2 := hc_add z x.1.2; omega))⟩) ?_
        refine .mv rfl 1 ?_
        refine .e rfl (V := rgV (gcut (((Cx.ofInt (1 : Int) (0 : Int)).div z).add x.1.2))) (fun H => x_ex (H.g 67 2)) ?_
        refine .e rfl (V := .int .i64 (gerr (((Cx.ofInt (1 : Int) (0 : Int)).div z).add x.1.2))) (fun H => x_ex (H.g 67 2)) ?_
        refine .al rfl zG ?_
        refine .so rfl 5 (fun H => ⟨H.r 12 5, H.g 70 3⟩) ?_
        refine .mv rfl 4 ?_
        refine .dd (fun u => ⟨List.toArray (.slice p_g0 l.length c_g0::sq u1 0 3 (.bool bad::U::d6::u12 1::.int .i64 (x.1.1 : Int)::.pointer (some ⟨q_, 0, none⟩)::u20 5::u20 7::u 5::u 7::sq u2 0 3 (u3 0::u3 1::.int .i64 k::u4 0::d21::d22::d23::d24::d25::d26::d27::d28::d29::u8 1::u8 0::U::u10 3::sq u10 0 3 (U::u12 0::.slice p_g0 l.length c_g0::.func (.func 108) #[] #[.pointer (some ⟨b0, 0, none⟩)]::.int .i64 (x.1.1 : Int)::rgV (rg x.1.2)::sq u16 0 5 (u17 0::u17 1::U::sq u19 0 3 (u20 2::u20 0::u20 1::u20 3::u20 4::u21 0::u21 1::U::U::sq u23 0 4 (u 2::u 0::u 1::u 3::u 4::us 8))))))), []⟩) bel.size fun u24 w24 D => ?_
        obtain ⟨b58, E24_5, A_b58, B_b58⟩ := D.st 6
        have E24_0 := D.q 0
        have E24_1 := D.q 1
        have E24_2 := D.q 2
        have E24_3 := D.q 3
        have E24_4 := D.q 4
        have E24_7 := D.q 7
        have N_b3_b58 := D.n1 5 (lt_of B_b3) E24_5
        have N_b4_b58 := D.n1 5 (lt_of B_b4) E24_5
        have N_b29_b58 := D.n1 5 (lt_of B_b29) E24_5
        replace B_b0 := D.k B_b0
        replace B_b2 := D.k B_b2
        replace B_b3 := D.k B_b3
        replace B_b4 := D.k B_b4
        replace B_b29 := D.k B_b29
        replace B_q_ := D.k B_q_
        replace B_b48 := D.k B_b48
        replace F_za := D.o L_za F_za
        replace F_zb := D.o L_zb F_zb
        replace F_b43 := D.o L_b43 F_b43
        replace F_b44 := D.o L_b44 F_b44
        replace F_b45 := D.o L_b45 F_b45
        replace F_b46 := D.o L_b46 F_b46
        replace F_b53 := D.o L_b53 F_b53
        replace F_b54 := D.o L_b54 F_b54
        replace F_b55 := D.o L_b55 F_b55
        replace F_b56 := D.o L_b56 F_b56
        replace B_g0 := fun h => D.k (B_g0 h)
        replace kf := kf.trans (D.d.base.keepsF (by simp))
        have A9_b58 : w32.heap.size ≤ b58 := Nat.le_trans nLr (D.lo 5 E24_5)
        replace bel := D.d.base.bel0 bel bel.size
        replace nLr := Nat.le_trans nLr D.d.base.grow.size
        clear D
        refine K57 _ _ ?_
        refine wpIn_seq_k fun _ K59 => ?_
        refine go2_seqI (noLets fun _ _ h_ => h_) (by kernel_rfl) 2 rfl (Amb Z0 W) [] [] (Olds.nil _) (by kernel_rfl) ?_
        refine .mz rfl 13 E24_7 ?_
        refine .e rfl (V := .bool ((gerr (((Cx.ofInt (1 : Int) (0 : Int)).div z).add x.1.2)) != 0)) (fun H => x_cmp (H.g 72 0) (H.c _)) ?_
        refine .dd (fun u => ⟨List.toArray (.slice p_g0 l.length c_g0::sq u1 0 3 (.bool bad::U::d6::u12 1::.int .i64 (x.1.1 : Int)::.pointer (some ⟨q_, 0, none⟩)::u20 5::u20 7::u24 5::u24 7::sq u2 0 3 (u3 0::u3 1::.int .i64 k::u4 0::d21::d22::d23::d24::d25::d26::d27::d28::d29::u8 1::u8 0::U::u10 3::sq u10 0 3 (U::u12 0::.slice p_g0 l.length c_g0::.func (.func 108) #[] #[.pointer (some ⟨b0, 0, none⟩)]::.int .i64 (x.1.1 : Int)::rgV (rg x.1.2)::sq u16 0 5 (u17 0::u17 1::U::sq u19 0 3 (u20 2::u20 0::u20 1::u20 3::u20 4::u21 0::u21 1::U::U::sq u23 0 4 (u24 2::u24 0::u24 1::u24 3::u24 4::u 0::u 1::us 6))))))), []⟩) bel.size fun u25 w25 D => ?_
        have E25_0 := D.q 0
        have E25_1 := D.q 1
        replace B_b0 := D.k B_b0
        replace B_b2 := D.k B_b2
        replace B_b3 := D.k B_b3
        replace B_b4 := D.k B_b4
        replace B_b29 := D.k B_b29
        replace B_q_ := D.k B_q_
        replace B_b48 := D.k B_b48
        replace B_b58 := D.k B_b58
        replace F_za := D.o L_za F_za
        replace F_zb := D.o L_zb F_zb
        replace F_b43 := D.o L_b43 F_b43
        replace F_b44 := D.o L_b44 F_b44
        replace F_b45 := D.o L_b45 F_b45
        replace F_b46 := D.o L_b46 F_b46
        replace F_b53 := D.o L_b53 F_b53
        replace F_b54 := D.o L_b54 F_b54
        replace F_b55 := D.o L_b55 F_b55
        replace F_b56 := D.o L_b56 F_b56
        replace B_g0 := fun h => D.k (B_g0 h)
        replace kf := kf.trans (D.d.base.keepsF (by simp))
        replace bel := D.d.base.bel0 bel bel.size
        replace nLr := Nat.le_trans nLr D.d.base.grow.size
        clear D
        refine K59 _ _ ?_
        rcases Bool.eq_false_or_eq_true ((gerr (((Cx.ofInt (1 : Int) (0 : Int)).div z).add x.1.2)) != 0) with c60 | c60
        ·
         refine wpIn_cond_true ((E25_1).trans (congrArg Value.bool c60)) ?_
         refine wpIn_seq_k fun _ K61 => ?_
         refine go2_seqI (noLets fun _ _ h_ => h_) (by kernel_rfl) 4 rfl (Amb Z0 W) [(b3, 2), (b4, 3)] [2, 3] (Olds.cons (R0 := fun _ => True) (lt_of B_b3) (by simp [(Ne.symm N_b3_b4)]) (Olds.one (lt_of B_b4))) (by kernel_rfl) ?_
         refine .e rfl (V := .agg zG) (fun H => by clear H; go_simp) ?_
         refine .mz rfl 13 E24_7 ?_
         refine .sz rfl 0 B_b3 (lt_of B_b3) (by intro y k hy; match y, hy with | 0, hy => rfl | 1, hy => simp at hy; exact absurd hy.1 (Ne.symm N_b3_b4)) (fun H => ⟨(H.z 2 E1_1), (H.g 74 0)⟩) ?_
         refine .sc rfl 1 (#[.int .i64 (gerr (((Cx.ofInt (1 : Int) (0 : Int)).div z).add x.1.2))]) B_b4 (lt_of B_b4) (by intro y k hy; match y, hy with | 0, hy => simp at hy; exact absurd hy.1 N_b3_b4 | 1, hy => rfl) (fun H => ⟨(H.z 3 E1_2), (H.g 75 1)⟩) ?_
         refine .dd (fun u => ⟨List.toArray (.slice p_g0 l.length c_g0::sq u1 0 3 (.bool bad::U::d6::u12 1::.int .i64 (x.1.1 : Int)::.pointer (some ⟨q_, 0, none⟩)::u20 5::u20 7::u24 5::u24 7::sq u2 0 3 (u3 0::u3 1::.int .i64 k::u4 0::d21::d22::d23::d24::d25::d26::d27::d28::d29::u8 1::u8 0::U::u10 3::sq u10 0 3 (U::u12 0::.slice p_g0 l.length c_g0::.func (.func 108) #[] #[.pointer (some ⟨b0, 0, none⟩)]::.int .i64 (x.1.1 : Int)::rgV (rg x.1.2)::sq u16 0 5 (u17 0::u17 1::U::sq u19 0 3 (u20 2::u20 0::u20 1::u20 3::u20 4::u21 0::u21 1::U::U::sq u23 0 4 (u24 2::u24 0::u24 1::u24 3::u24 4::u25 0::u25 1::u 0::u 1::us 4))))))), []⟩) bel.size fun u26 w26 D => ?_
         have E26_0 := D.q 0
         have E26_1 := D.q 1
         replace B_b0 := D.kk B_b0 (no_cons N_b3_b0 (no_cons N_b4_b0 (no_nil _)))
         replace B_b2 := D.kk B_b2 (no_cons (Ne.symm N_b2_b3) (no_cons (Ne.symm N_b2_b4) (no_nil _)))
         replace B_b3 := D.ol 2
         replace B_b4 := D.ol 3
         replace B_b29 := D.kk B_b29 (no_cons N_b3_b29 (no_cons N_b4_b29 (no_nil _)))
         replace B_q_ := D.kk B_q_ (no_cons N_b3_q_ (no_cons N_b4_q_ (no_nil _)))
         replace B_b48 := D.kk B_b48 (no_cons N_b3_b48 (no_cons N_b4_b48 (no_nil _)))
         replace B_b58 := D.kk B_b58 (no_cons N_b3_b58 (no_cons N_b4_b58 (no_nil _)))
         replace F_za := D.o L_za F_za
         replace F_zb := D.o L_zb F_zb
         replace F_b43 := D.o L_b43 F_b43
         replace F_b44 := D.o L_b44 F_b44
         replace F_b45 := D.o L_b45 F_b45
         replace F_b46 := D.o L_b46 F_b46
         replace F_b53 := D.o L_b53 F_b53
         replace F_b54 := D.o L_b54 F_b54
         replace F_b55 := D.o L_b55 F_b55
         replace F_b56 := D.o L_b56 F_b56
         replace B_g0 := fun h => D.kk (B_g0 h) (no_cons (Nat.ne_of_gt (Nat.lt_of_lt_of_le (X_g0 h) A_b3)) (no_cons (Nat.ne_of_gt (Nat.lt_of_lt_of_le (X_g0 h) A_b4)) (no_nil _)))
         replace kf := kf.trans (D.d.base.keepsF (by simp; omega))
         replace bel := D.d.base.bel bel bel.size (by simp; omega)
         replace nLr := Nat.le_trans nLr D.d.base.grow.size
         clear D
         refine K61 _ _ ?_
         refine wpIn_ret ?_
         exact ⟨kf, rfl, _, _, (zFd_snoc hz0 x).trans (zs_add c37 c40 c50 c60), gerr_ne c60, ⟨B_b3, B_b4⟩, bel⟩
        ·
         refine wpIn_cond_false ((E25_1).trans (congrArg Value.bool c60)) ?_
         refine wpIn_skip ?_
         refine inBlock_normal ?_
         exact ⟨kf, ⟨below_between belr bel kf.size, B_b0.trans BC_.symm⟩, ⟨b55, b56, _, (zFd_snoc hz0 x).trans (zs_ok c37 c40 c50 c60), by first | exact gerr_ht c60 | exact gerr_ht c40, L_b55, L_b56, ⟨B_b29, F_b55, F_b56, B_b0, B_b2, B_b3, B_b4⟩, bel, nLr⟩⟩
     ·
      refine wpIn_cond_false ((E16_4).trans (congrArg Value.bool c37)) ?_
      have dc37 := of_decide_eq_false c37
      refine wpIn_skip ?_
      refine K35 _ _ ?_
      refine wpIn_seq_k fun _ K62 => ?_
      refine go2_drawnI (noLets fun _ _ h_ => h_) (by kernel_rfl) (by kernel_rfl) 5 rfl (Amb Z0 W) [(b29, 4)] [4] (Olds.one (lt_of B_b29)) (by kernel_rfl) ?_
      refine .e rfl (fun H => x_ldr (H.z 7 E12_1) (H.bo B_b29 0 4)) ?_
      refine .e rfl (fun H => x_ldr (H.v 9 (.pointer (some ⟨q_, 0, none⟩))) (H.b1 B_q_ N_b29_q_)) ?_
      refine .cR rfl [] Tryz.func57 (fun H => ⟨_, ar1 (H.g 64 1), xOf _ (by first | omega | exact zero_norm x_x | (have k1 := hc_div (Cx.ofInt (1 : Int) (0 : Int)) z; omega) | (have k1 := gerr_ht x_x; omega) | (have k1 := gerr_ht x_x; have k2 := hc_add ((Cx.ofInt (1 : Int) (0 : Int)).div z) x.1.2; omega) | (have k2 := hc_add z x.1.2; omega))⟩) ?_
      refine .cR rfl [2] Tryz.func56 (fun H => ⟨_, ar2 (H.g 63 0) (H.r 65 2), xAdd _ _ (CxP.mk (H.was _ [2] (VP.at F_za L_za)) (H.was _ [2] (VP.at F_zb L_zb))) (SV.sub [2] (H.a 2 rfl) rfl) (by first | omega | exact zero_norm x_x | (have k1 := hc_div (Cx.ofInt (1 : Int) (0 : Int)) z; omega) | (have k1 := gerr_ht x_x; omega) | (have k1 := gerr_ht x_x; have k2 := hc_add ((Cx.ofInt (1 : Int) (0 : Int)).div z) x.1.2; omega) | (have k2 := hc_add z x.1.2; omega))⟩) ?_
      refine Go2.storeOld (i := 4) 0 b29 rfl rfl rfl ⟨_, _, _, B_b29, rfl⟩ (SP.old 0 b29 [3] (fun u => #[((u 3).v.cells.getD 0 undef), ((u 3).v.cells.getD 1 undef)]) 81 (by intro u u' h; simp [h 3 (by simp)]) (lt_of B_b29) (by intro y k hy; match y, hy with | 0, hy => rfl)) (fun u μ ρ H => ?_) ?_
      · have e7 := H.z 7 E12_1; have e66 := H.r 66 3; have hb := H.blkOld B_b29 0 4 rfl (.inl rfl)
        obtain ⟨x1, x2, h1, h2, h3⟩ := (H.a 3 rfl)
        have o1 := VP1.rat h2
        have o2 := VP1.rat h3
        rw [h1] at e66
        refine ⟨μ.setRow b29 #[x1, x2], ex_store_row 81 _ _ rfl e7 e66 hb (by kernel_rfl) rfl (by simp [o1, o2]), fun g => ?_, setRow_only _ _ _⟩
        show (World.setRow _ _ _).heap[b29]? = _
        rw [setRow_at hb]; try simp [upd, h1, Value.cells]
      refine .dd (fun u => ⟨List.toArray (.slice p_g0 l.length c_g0::sq u1 0 3 (.bool bad::U::d6::u12 1::.int .i64 (x.1.1 : Int)::.pointer (some ⟨q_, 0, none⟩)::U::U::U::U::sq u2 0 3 (u3 0::u3 1::.int .i64 k::u4 0::d21::d22::d23::d24::d25::d26::d27::d28::d29::u8 1::u8 0::U::u10 3::sq u10 0 3 (U::u12 0::.slice p_g0 l.length c_g0::.func (.func 108) #[] #[.pointer (some ⟨b0, 0, none⟩)]::.int .i64 (x.1.1 : Int)::rgV (rg x.1.2)::sq u16 0 5 (U::U::U::U::U::U::U::U::U::U::U::U::U::U::U::sq u 0 4 (us 13)))))), []⟩) bel.size fun u27 w27 D => ?_
      obtain ⟨b63, b64, E27_2, L_b63, L_b64, F_b63, F_b64⟩ := CxP.elim (D.rr 2)
      obtain ⟨b65, b66, E27_3, L_b65, L_b66, F_b65, F_b66⟩ := CxP.elim (D.rr 3)
      have E27_0 := D.q 0
      have E27_1 := D.q 1
      replace B_b0 := D.k1 B_b0 N_b29_b0
      replace B_b2 := D.k1 B_b2 (Ne.symm N_b2_b29)
      replace B_b3 := D.k1 B_b3 (Ne.symm N_b3_b29)
      replace B_b4 := D.k1 B_b4 (Ne.symm N_b4_b29)
      replace B_b29 : w27.heap[b29]? = _ := (D.a 4 rfl)
      simp only [Value.cells, E27_2, E27_3] at B_b29
      replace B_q_ := D.k1 B_q_ N_b29_q_
      replace F_za := D.o L_za F_za
      replace F_zb := D.o L_zb F_zb
      replace B_g0 := fun h => D.kk (B_g0 h) (no_cons (Nat.ne_of_gt (Nat.lt_of_lt_of_le (X_g0 h) A_b29)) (no_nil _))
      replace kf := kf.trans (D.d.base.keepsF (by simp; omega))
      replace bel := D.d.base.bel bel bel.size (by simp; omega)
      replace nLr := Nat.le_trans nLr D.d.base.grow.size
      clear D
      refine K62 _ _ ?_
      refine wpIn_seq_k fun _ K67 => ?_
      refine go2_seqI (noLets fun _ _ h_ => h_) (by kernel_rfl) 8 rfl (Amb Z0 W) [] [] (Olds.nil _) (by kernel_rfl) ?_
      refine .lr rfl 7 E12_1 B_b29 ?_
      refine .cK rfl Tryz.func55 (fun H => ⟨_, ar1 (H.g 68 0), xGauss _ (CxP.mk (VP.any _ (H.was _ [] (VP.at F_b65 L_b65))) (VP.any _ (H.was _ [] (VP.at F_b66 L_b66)))) (by first | omega | exact zero_norm x_x | (have k1 := hc_div (Cx.ofInt (1 : Int) (0 : Int)) z; omega) | (have k1 := gerr_ht x_x; omega) | (have k1 := gerr_ht x_x; have k2 := hc_add ((Cx.ofInt (1 : Int) (0 : Int)).div z) x.1.2; omega) | (have k2 := hc_add z x.1.2; omega))⟩) ?_
      refine .mv rfl 1 ?_
      refine .e rfl (V := rgV (gcut (z.add x.1.2))) (fun H => x_ex (H.g 67 2)) ?_
      refine .e rfl (V := .int .i64 (gerr (z.add x.1.2))) (fun H => x_ex (H.g 67 2)) ?_
      refine .al rfl zG ?_
      refine .so rfl 5 (fun H => ⟨H.r 12 5, H.g 70 3⟩) ?_
      refine .mv rfl 4 ?_
      refine .dd (fun u => ⟨List.toArray (.slice p_g0 l.length c_g0::sq u1 0 3 (.bool bad::U::d6::u12 1::.int .i64 (x.1.1 : Int)::.pointer (some ⟨q_, 0, none⟩)::U::U::u 5::u 7::sq u2 0 3 (u3 0::u3 1::.int .i64 k::u4 0::d21::d22::d23::d24::d25::d26::d27::d28::d29::u8 1::u8 0::U::u10 3::sq u10 0 3 (U::u12 0::.slice p_g0 l.length c_g0::.func (.func 108) #[] #[.pointer (some ⟨b0, 0, none⟩)]::.int .i64 (x.1.1 : Int)::rgV (rg x.1.2)::sq u16 0 5 (U::U::U::U::U::U::U::U::U::U::U::U::U::U::U::sq u27 0 4 (u 2::u 0::u 1::u 3::u 4::us 8)))))), []⟩) bel.size fun u28 w28 D => ?_
      obtain ⟨b68, E28_5, A_b68, B_b68⟩ := D.st 6
      have E28_0 := D.q 0
      have E28_1 := D.q 1
      have E28_2 := D.q 2
      have E28_3 := D.q 3
      have E28_4 := D.q 4
      have E28_7 := D.q 7
      have N_b3_b68 := D.n1 5 (lt_of B_b3) E28_5
      have N_b4_b68 := D.n1 5 (lt_of B_b4) E28_5
      have N_b29_b68 := D.n1 5 (lt_of B_b29) E28_5
      replace B_b0 := D.k B_b0
      replace B_b2 := D.k B_b2
      replace B_b3 := D.k B_b3
      replace B_b4 := D.k B_b4
      replace B_b29 := D.k B_b29
      replace B_q_ := D.k B_q_
      replace F_za := D.o L_za F_za
      replace F_zb := D.o L_zb F_zb
      replace F_b63 := D.o L_b63 F_b63
      replace F_b64 := D.o L_b64 F_b64
      replace F_b65 := D.o L_b65 F_b65
      replace F_b66 := D.o L_b66 F_b66
      replace B_g0 := fun h => D.k (B_g0 h)
      replace kf := kf.trans (D.d.base.keepsF (by simp))
      have A9_b68 : w32.heap.size ≤ b68 := Nat.le_trans nLr (D.lo 5 E28_5)
      replace bel := D.d.base.bel0 bel bel.size
      replace nLr := Nat.le_trans nLr D.d.base.grow.size
      clear D
      refine K67 _ _ ?_
      refine wpIn_seq_k fun _ K69 => ?_
      refine go2_seqI (noLets fun _ _ h_ => h_) (by kernel_rfl) 2 rfl (Amb Z0 W) [] [] (Olds.nil _) (by kernel_rfl) ?_
      refine .mz rfl 13 E28_7 ?_
      refine .e rfl (V := .bool ((gerr (z.add x.1.2)) != 0)) (fun H => x_cmp (H.g 72 0) (H.c _)) ?_
      refine .dd (fun u => ⟨List.toArray (.slice p_g0 l.length c_g0::sq u1 0 3 (.bool bad::U::d6::u12 1::.int .i64 (x.1.1 : Int)::.pointer (some ⟨q_, 0, none⟩)::U::U::u28 5::u28 7::sq u2 0 3 (u3 0::u3 1::.int .i64 k::u4 0::d21::d22::d23::d24::d25::d26::d27::d28::d29::u8 1::u8 0::U::u10 3::sq u10 0 3 (U::u12 0::.slice p_g0 l.length c_g0::.func (.func 108) #[] #[.pointer (some ⟨b0, 0, none⟩)]::.int .i64 (x.1.1 : Int)::rgV (rg x.1.2)::sq u16 0 5 (U::U::U::U::U::U::U::U::U::U::U::U::U::U::U::sq u27 0 4 (u28 2::u28 0::u28 1::u28 3::u28 4::u 0::u 1::us 6)))))), []⟩) bel.size fun u29 w29 D => ?_
      have E29_0 := D.q 0
      have E29_1 := D.q 1
      replace B_b0 := D.k B_b0
      replace B_b2 := D.k B_b2
      replace B_b3 := D.k B_b3
      replace B_b4 := D.k B_b4
      replace B_b29 := D.k B_b29
      replace B_q_ := D.k B_q_
      replace B_b68 := D.k B_b68
      replace F_za := D.o L_za F_za
      replace F_zb := D.o L_zb F_zb
      replace F_b63 := D.o L_b63 F_b63
      replace F_b64 := D.o L_b64 F_b64
      replace F_b65 := D.o L_b65 F_b65
      replace F_b66 := D.o L_b66 F_b66
      replace B_g0 := fun h => D.k (B_g0 h)
      replace kf := kf.trans (D.d.base.keepsF (by simp))
      replace bel := D.d.base.bel0 bel bel.size
      replace nLr := Nat.le_trans nLr D.d.base.grow.size
      clear D
      refine K69 _ _ ?_
      rcases Bool.eq_false_or_eq_true ((gerr (z.add x.1.2)) != 0) with c70 | c70
      ·
       refine wpIn_cond_true ((E29_1).trans (congrArg Value.bool c70)) ?_
       refine wpIn_seq_k fun _ K71 => ?_
       refine go2_seqI (noLets fun _ _ h_ => h_) (by kernel_rfl) 4 rfl (Amb Z0 W) [(b3, 2), (b4, 3)] [2, 3] (Olds.cons (R0 := fun _ => True) (lt_of B_b3) (by simp [(Ne.symm N_b3_b4)]) (Olds.one (lt_of B_b4))) (by kernel_rfl) ?_
       refine .e rfl (V := .agg zG) (fun H => by clear H; go_simp) ?_
       refine .mz rfl 13 E28_7 ?_
       refine .sz rfl 0 B_b3 (lt_of B_b3) (by intro y k hy; match y, hy with | 0, hy => rfl | 1, hy => simp at hy; exact absurd hy.1 (Ne.symm N_b3_b4)) (fun H => ⟨(H.z 2 E1_1), (H.g 74 0)⟩) ?_
       refine .sc rfl 1 (#[.int .i64 (gerr (z.add x.1.2))]) B_b4 (lt_of B_b4) (by intro y k hy; match y, hy with | 0, hy => simp at hy; exact absurd hy.1 N_b3_b4 | 1, hy => rfl) (fun H => ⟨(H.z 3 E1_2), (H.g 75 1)⟩) ?_
       refine .dd (fun u => ⟨List.toArray (.slice p_g0 l.length c_g0::sq u1 0 3 (.bool bad::U::d6::u12 1::.int .i64 (x.1.1 : Int)::.pointer (some ⟨q_, 0, none⟩)::U::U::u28 5::u28 7::sq u2 0 3 (u3 0::u3 1::.int .i64 k::u4 0::d21::d22::d23::d24::d25::d26::d27::d28::d29::u8 1::u8 0::U::u10 3::sq u10 0 3 (U::u12 0::.slice p_g0 l.length c_g0::.func (.func 108) #[] #[.pointer (some ⟨b0, 0, none⟩)]::.int .i64 (x.1.1 : Int)::rgV (rg x.1.2)::sq u16 0 5 (U::U::U::U::U::U::U::U::U::U::U::U::U::U::U::sq u27 0 4 (u28 2::u28 0::u28 1::u28 3::u28 4::u29 0::u29 1::u 0::u 1::us 4)))))), []⟩) bel.size fun u30 w30 D => ?_
       have E30_0 := D.q 0
       have E30_1 := D.q 1
       replace B_b0 := D.kk B_b0 (no_cons N_b3_b0 (no_cons N_b4_b0 (no_nil _)))
       replace B_b2 := D.kk B_b2 (no_cons (Ne.symm N_b2_b3) (no_cons (Ne.symm N_b2_b4) (no_nil _)))
       replace B_b3 := D.ol 2
       replace B_b4 := D.ol 3
       replace B_b29 := D.kk B_b29 (no_cons N_b3_b29 (no_cons N_b4_b29 (no_nil _)))
       replace B_q_ := D.kk B_q_ (no_cons N_b3_q_ (no_cons N_b4_q_ (no_nil _)))
       replace B_b68 := D.kk B_b68 (no_cons N_b3_b68 (no_cons N_b4_b68 (no_nil _)))
       replace F_za := D.o L_za F_za
       replace F_zb := D.o L_zb F_zb
       replace F_b63 := D.o L_b63 F_b63
       replace F_b64 := D.o L_b64 F_b64
       replace F_b65 := D.o L_b65 F_b65
       replace F_b66 := D.o L_b66 F_b66
       replace B_g0 := fun h => D.kk (B_g0 h) (no_cons (Nat.ne_of_gt (Nat.lt_of_lt_of_le (X_g0 h) A_b3)) (no_cons (Nat.ne_of_gt (Nat.lt_of_lt_of_le (X_g0 h) A_b4)) (no_nil _)))
       replace kf := kf.trans (D.d.base.keepsF (by simp; omega))
       replace bel := D.d.base.bel bel bel.size (by simp; omega)
       replace nLr := Nat.le_trans nLr D.d.base.grow.size
       clear D
       refine K71 _ _ ?_
       refine wpIn_ret ?_
       exact ⟨kf, rfl, _, _, (zFd_snoc hz0 x).trans (zs_last c37 c70), gerr_ne c70, ⟨B_b3, B_b4⟩, bel⟩
      ·
       refine wpIn_cond_false ((E29_1).trans (congrArg Value.bool c70)) ?_
       refine wpIn_skip ?_
       refine inBlock_normal ?_
       exact ⟨kf, ⟨below_between belr bel kf.size, B_b0.trans BC_.symm⟩, ⟨b65, b66, _, (zFd_snoc hz0 x).trans (zs_first c37 c70), by first | exact gerr_ht x_x | exact gerr_ht c70, L_b65, L_b66, ⟨B_b29, F_b65, F_b66, B_b0, B_b2, B_b3, B_b4⟩, bel, nLr⟩⟩
    ·
     clear B_b2 B_b3 B_b4 B_b29 B_b0 F_b27 F_b28 bel B_g0
     rintro D_ xs_ w_e hD_ rfl ⟨za, zb, z, hz0, hzb, L_za, L_zb, ⟨B_b29, F_za, F_zb, B_b0, B_b2, B_b3, B_b4⟩, bel, nLr⟩ B_D_
     have belr := bel
     have BC_ := B_b0
     have B_g0 := fun h => (bel.block _ (X_g0 h)).trans (W_g0 h)
     have N_b0_za : b0 ≠ za := soft_ne (RatP.soft F_za) B_b0 (by decide)
     have N_b0_zb : b0 ≠ zb := soft_ne (RatP.soft F_zb) B_b0 (by decide)
     have N_b2_za : b2 ≠ za := soft_ne (RatP.soft F_za) B_b2 (by decide)
     have N_b2_zb : b2 ≠ zb := soft_ne (RatP.soft F_zb) B_b2 (by decide)
     have N_b3_za : b3 ≠ za := soft_ne (RatP.soft F_za) B_b3 (by decide)
     have N_b3_zb : b3 ≠ zb := soft_ne (RatP.soft F_zb) B_b3 (by decide)
     have N_b4_za : b4 ≠ za := soft_ne (RatP.soft F_za) B_b4 (by decide)
     have N_b4_zb : b4 ≠ zb := soft_ne (RatP.soft F_zb) B_b4 (by decide)
     have N_b29_za : b29 ≠ za := soft_ne (RatP.soft F_za) B_b29 (by decide)
     have N_b29_zb : b29 ≠ zb := soft_ne (RatP.soft F_zb) B_b29 (by decide)
     have N_b0_D_ : b0 ≠ D_ := Nat.ne_of_lt (Nat.lt_of_lt_of_le lt_b0 hD_)
     have N_b2_D_ : b2 ≠ D_ := Nat.ne_of_lt (Nat.lt_of_lt_of_le lt_b2 hD_)
     have N_b3_D_ : b3 ≠ D_ := Nat.ne_of_lt (Nat.lt_of_lt_of_le lt_b3 hD_)
     have N_b4_D_ : b4 ≠ D_ := Nat.ne_of_lt (Nat.lt_of_lt_of_le lt_b4 hD_)
     have N_b29_D_ : b29 ≠ D_ := Nat.ne_of_lt (Nat.lt_of_lt_of_le lt_b29 hD_)
     have N_D__za : D_ ≠ za := fun e_ => by subst e_; obtain ⟨_, _, h_, _⟩ := RatP.soft F_za; rw [B_D_] at h_; cases h_
     have N_D__zb : D_ ≠ zb := fun e_ => by subst e_; obtain ⟨_, _, h_, _⟩ := RatP.soft F_zb; rw [B_D_] at h_; cases h_
     refine inBlock_normal ?_
     refine K30 _ _ ?_
     refine wp_seq_k fun _ K72 => ?_
     refine go2_seq 6 rfl (Amb Z0 W) [(b3, 4), (b4, 5)] [4, 5] (Olds.cons (R0 := fun _ => True) (lt_of B_b3) (by simp [(Ne.symm N_b3_b4)]) (Olds.one (lt_of B_b4))) (by kernel_rfl) ?_
     refine .e rfl (fun H => x_ldr (H.z 7 E12_1) (H.bn B_b29 (no_cons N_b3_b29 (no_cons N_b4_b29 (no_nil _))))) ?_
     refine .cK rfl Tryz.func55 (fun H => ⟨_, ar1 (H.g 76 0), xGauss _ (CxP.mk (VP.any _ (H.was _ [] (VP.at F_za L_za))) (VP.any _ (H.was _ [] (VP.at F_zb L_zb)))) (by first | omega | exact zero_norm x_x | (have k1 := hc_div (Cx.ofInt (1 : Int) (0 : Int)) z; omega) | (have k1 := gerr_ht x_x; omega) | (have k1 := gerr_ht x_x; have k2 := hc_add ((Cx.ofInt (1 : Int) (0 : Int)).div z) x.1.2; omega) | (have k2 := hc_add z x.1.2; omega))⟩) ?_
     refine .e rfl (V := rgV (gcut z)) (fun H => x_ex (H.g 77 1)) ?_
     refine .e rfl (V := .int .i64 (gerr z)) (fun H => x_ex (H.g 77 1)) ?_
     refine .sz rfl 0 B_b3 (lt_of B_b3) (by intro y k hy; match y, hy with | 0, hy => rfl | 1, hy => simp at hy; exact absurd hy.1 (Ne.symm N_b3_b4)) (fun H => ⟨(H.z 2 E1_1), (H.g 78 2)⟩) ?_
     refine .sc rfl 1 (#[.int .i64 (gerr z)]) B_b4 (lt_of B_b4) (by intro y k hy; match y, hy with | 0, hy => simp at hy; exact absurd hy.1 N_b3_b4 | 1, hy => rfl) (fun H => ⟨(H.z 3 E1_2), (H.g 79 3)⟩) ?_
     refine .dd (fun u => ⟨List.toArray (.slice p_g0 l.length c_g0::sq u1 0 3 (.bool bad::U::d6::u12 1::U::U::U::U::U::U::sq u2 0 3 (u3 0::u3 1::.int .i64 k::u4 0::d21::d22::d23::d24::d25::d26::d27::d28::d29::u8 1::u8 0::U::u10 3::sq u10 0 3 (U::u12 0::.slice p_g0 l.length c_g0::.func (.func 108) #[] #[.pointer (some ⟨b0, 0, none⟩)]::U::U::U::U::U::U::U::U::U::U::U::U::U::U::U::U::U::U::U::U::U::U::U::U::U::U::U::U::U::U::U::U::U::U::U::sq u 0 4 [])))), [{ target := .collected D_, args := #[] }]⟩) bel.size fun u31 w31 D => ?_
     have E31_0 := D.q 0
     have E31_1 := D.q 1
     have E31_2 := D.q 2
     have E31_3 := D.q 3
     replace B_b0 := D.kk B_b0 (no_cons N_b3_b0 (no_cons N_b4_b0 (no_nil _)))
     replace B_b2 := D.kk B_b2 (no_cons (Ne.symm N_b2_b3) (no_cons (Ne.symm N_b2_b4) (no_nil _)))
     replace B_b3 := D.ol 4
     replace B_b4 := D.ol 5
     replace B_b29 := D.kk B_b29 (no_cons N_b3_b29 (no_cons N_b4_b29 (no_nil _)))
     replace B_D_ := D.kk B_D_ (no_cons N_b3_D_ (no_cons N_b4_D_ (no_nil _)))
     replace F_za := D.o L_za F_za
     replace F_zb := D.o L_zb F_zb
     replace B_g0 := fun h => D.kk (B_g0 h) (no_cons (Nat.ne_of_gt (Nat.lt_of_lt_of_le (X_g0 h) A_b3)) (no_cons (Nat.ne_of_gt (Nat.lt_of_lt_of_le (X_g0 h) A_b4)) (no_nil _)))
     replace bel := D.d.base.bel bel bel.size (by simp; omega)
     clear D
     refine K72 _ _ ?_
     refine wp_ret ?_
     have ck_ := ck_put B_D_ rfl (.deferred none)
     refine retM_def rfl B_D_ (by exact results_rc rfl (by exact E1_1) (ck_ _ _ _ _ B_b3) Tryz.underlying30 rfl (by kernel_rfl) (by exact E1_2) (load_errno (ck_ _ _ _ _ B_b4))) (RetV.mk ?_ (bel.trans (belowK_b (w := w32) nL _ D_ _ _ hD_ B_D_ rfl rfl)))
     exact congrArg Ending.returned (mk_done hbad (by omega) hz0)
    ·
     clear B_b2 B_b3 B_b4 B_b29 B_b0 F_b27 F_b28 bel B_g0
     rintro D_ c_ pre w_e hD_ hp_ ⟨rfl, e, z, hz0, he0, ⟨B_b3, B_b4⟩, bel⟩ B_D_
     have ck_ := ck_put B_D_ rfl (.deferred none)
     refine wpIn_ret ?_
     refine retM_def rfl B_D_ (by exact results_rc rfl (by exact E1_1) (ck_ _ _ _ _ B_b3) Tryz.underlying30 rfl (by kernel_rfl) (by exact E1_2) (load_errno (ck_ _ _ _ _ B_b4))) (RetV.mk ?_ (bel.trans (belowK_b (w := w32) nL _ D_ _ _ hD_ B_D_ rfl rfl)))
     exact congrArg Ending.returned (mk_left hbad (by omega) hp_ hz0 he0)
end Go.Proofs.YtllohoibifcmdaaGreat
namespace Go.Proofs.YtllohoibifcmdaaGreat
open Go.RowKit Rgn
theorem nbD {b : Bool} (h : (!b) = false) : b = true := by cases b <;> simp_all
theorem ntD {b : Bool} (h : (!b) = true) : b = false := by cases b <;> simp_all
section
variable {l : List RG}
theorem beq_len (h : (((l.length : Nat) : Int) == 0) = false) : l.length ≠ 0 := fun e => by rw [e] at h; exact absurd h (by decide)
theorem whole_step {k : Int} (h0 : 0 ≤ k) (i2 : ∀ j, j < k.toNat → gwhole (l.getD j rg0) = true) (h : (!(gwhole (l.getD k.toNat rg0))) = false) : ∀ j, j < (k + 1).toNat → gwhole (l.getD j rg0) = true := fun j hj => by
  by_cases e : j < k.toNat
  · exact i2 j e
  · have : j = k.toNat := by omega
    rw [this]; exact nbD h
theorem bad_of (hne : l.length ≠ 0) (h : ∀ j, j < l.length → gwhole (l.getD j rg0) = true) : badU l l.length = false := by
  unfold badU
  rw [decide_eq_false hne, Bool.false_or, List.take_of_length_le (Nat.le_refl _), List.any_eq_false]
  intro r hr
  obtain ⟨i, hi, rfl⟩ := List.getElem_of_mem hr
  have := h i hi
  rw [List.getD_eq_getElem?_getD, List.getElem?_eq_getElem hi] at this
  have : gwhole l[i] = true := this
  rw [this]; decide
theorem whole_all {k : Int} (hne : l.length ≠ 0) (h1 : k ≤ ((l.length : Nat) : Int)) (h : ¬ k < ((l.length : Nat) : Int)) (i2 : ∀ j, j < k.toNat → gwhole (l.getD j rg0) = true) : badU l l.length = false :=
  bad_of hne (fun j hj => i2 j (by omega))
theorem mk_empty (h : (((l.length : Nat) : Int) == 0) = true) : resV (rg0, 2) = resV (mkRes l) := mk_bad (by
  have : l.length = 0 := by simpa using h
  unfold badU
  rw [decide_eq_true this]; rfl)
theorem mk_some {k : Int} (hne : l.length ≠ 0) (h0 : 0 ≤ k) (hk : k < ((l.length : Nat) : Int)) (h : (!(gwhole (l.getD k.toNat rg0))) = true) : resV (rg0, 2) = resV (mkRes l) := mk_bad (by
  cases hb : badU l l.length with
  | true => rfl
  | false =>
    have := (bad_no hb).2 k.toNat (by omega)
    rw [ntD h] at this; cases this)
theorem ex_load_el (hbad : badU l l.length = false) {ρ : Operand → Value} {o : Oper} {w : World} {x : Operand} {b off i : Nat} {cur : Array Value} {T : TypeId} {fr : Nat × Nat} (ho : o.op = .load 30 x) (hx : ρ x = .pointer (some ⟨b, off + 8 * i, none⟩)) (hB : w.heap[b]? = some (.cells cur T fr)) (hR : GRow cur off l) (hi : i < l.length) :
    (execOp ρ o).run Tryz.prog w = .ok (.value (rgV (rg (elC l i).1.2))) w := by
  have h := ex_load_gl ho hx hB hR hi
  rw [(elC_whole ((bad_no hbad).2 i hi)).2]
  exact h
def zAt (l : List RG) (y : Int) : Int × Cx := zFd (l.length : Int) (bwU l.length (elC l) (((l.length : Nat) : Int) - 1 - y).toNat)
theorem cx_add_comm (x y : Cx) : x.add y = y.add x := Cx.ext' (Rat.add_comm _ _) (Rat.add_comm _ _)
theorem cx_zero_add (x : Cx) : (Cx.ofInt (0 : Int) (0 : Int)).add x = x := Cx.ext' (Rat.zero_add _) (Rat.zero_add _)
theorem elC_fits (hbad : badU l l.length = false) {j : Int} (h : 0 ≤ j ∧ j < ((l.length : Nat) : Int)) : gfits (rg (elC l j.toNat).1.2) = true := by
  have hw := (bad_no hbad).2 j.toNat (by omega)
  rw [(elC_whole hw).2]
  unfold gwhole gmay fmay at hw
  simp only [Bool.and_eq_true] at hw
  show (fits _ && fits _) = true
  rw [Bool.and_eq_true]
  exact ⟨hw.1.1.1.1, hw.1.1.2.1⟩
theorem gerr_0 {z : Cx} (h : gfits (rg z) = true) : ((gerr z) != 0) = false := by unfold gerr; rw [if_pos h]; rfl
theorem gerr_1 {z : Cx} (h : gfits (rg z) = false) : gerr z = 4 ∧ ((gerr z) != 0) = true := by unfold gerr; rw [if_neg (by rw [h]; decide)]; exact ⟨rfl, by decide⟩
theorem zF_next (hbad : badU l l.length = false) {k : Nat} {x : Cx} (hk : k < l.length) (h : zFd (l.length : Int) (bwU l.length (elC l) k) = (0, x)) :
    zFd (l.length : Int) (bwU l.length (elC l) (k + 1)) = zStep (l.length : Int) x ((l.length - 1 - k : Nat) : Int) (elC l (l.length - 1 - k)).1.2 := by
  rw [bwU_succ, zFd_snoc h, (elC_whole ((bad_no hbad).2 (l.length - 1 - k) (by omega))).1]
theorem zAt_start (hbad : badU l l.length = false) : zAt l (((l.length : Nat) : Int) - 2) = (0, (elC l (((l.length : Nat) : Int) - 1).toNat).1.2) := by
  have hne := (bad_no hbad).1
  have h0 : zFd (l.length : Int) (bwU l.length (elC l) 0) = (0, Cx.ofInt (0 : Int) (0 : Int)) := rfl
  have h1 := zF_next hbad (k := 0) (by omega) h0
  have e : (((l.length : Nat) : Int) - 1 - (((l.length : Nat) : Int) - 2)).toNat = 0 + 1 := by omega
  have e2 : (((l.length : Nat) : Int) - 1).toNat = l.length - 1 - 0 := by omega
  have hf := elC_fits hbad (j := ((l.length : Nat) : Int) - 1) (by omega)
  unfold zAt
  rw [e, h1]
  rw [e2] at hf ⊢
  have hz := zs_first (n := (l.length : Int)) (z := Cx.ofInt (0 : Int) (0 : Int)) (i := ((l.length - 1 - 0 : Nat) : Int)) (q := (elC l (l.length - 1 - 0)).1.2) (decide_eq_false (by omega)) (by rw [cx_zero_add]; exact gerr_0 hf)
  rw [cx_zero_add] at hz
  exact hz
variable {y : Int} {x : Cx}
theorem zAt_next (hbad : badU l l.length = false) (i1 : y ≤ ((l.length : Nat) : Int) - 2) (i2 : zAt l y = (0, x)) (hy : 0 ≤ y) : zAt l (y - 1) = zStep (l.length : Int) x y (elC l y.toNat).1.2 := by
  have h := zF_next hbad (k := (((l.length : Nat) : Int) - 1 - y).toNat) (by omega) i2
  have e : (((l.length : Nat) : Int) - 1 - (y - 1)).toNat = (((l.length : Nat) : Int) - 1 - y).toNat + 1 := by omega
  have e2 : l.length - 1 - (((l.length : Nat) : Int) - 1 - y).toNat = y.toNat := by omega
  unfold zAt
  rw [e, h, e2]
  have e3 : ((y.toNat : Nat) : Int) = y := by omega
  rw [e3]
theorem zAt_ok (hbad : badU l l.length = false) (i1 : y ≤ ((l.length : Nat) : Int) - 2) (i2 : zAt l y = (0, x)) (hy : 0 ≤ y) (hz : x.zero = false) (h5 : (!(gfits (rg ((Cx.ofInt (1 : Int) (0 : Int)).div x)))) = false) (h6 : (!(gfits (rg (((elC l y.toNat).1.2).add ((Cx.ofInt (1 : Int) (0 : Int)).div x))))) = false) :
    zAt l (y - 1) = (0, ((elC l y.toNat).1.2).add ((Cx.ofInt (1 : Int) (0 : Int)).div x)) := by
  rw [zAt_next hbad i1 i2 hy, zs_ok (decide_eq_true (by omega)) hz (gerr_0 (nbD h5)) (by rw [cx_add_comm]; exact gerr_0 (nbD h6)), cx_add_comm]
theorem rf_at (hbad : badU l l.length = false) (h1 : ¬ 4096 < l.length) {e : Int} {z : Cx} (hy : -1 ≤ y) (i1 : y ≤ ((l.length : Nat) : Int) - 2) (hz : zAt l y = (e, z)) (he : e ≠ 0) : resV (rg0, e) = resV (mkRes l) :=
  mk_left hbad h1 ⟨_, by omega, rfl⟩ hz he
theorem rf_zero (hbad : badU l l.length = false) (i1 : y ≤ ((l.length : Nat) : Int) - 2) (i2 : zAt l y = (0, x)) (hy : 0 ≤ y) (hz : x.zero = true) (h1 : ¬ 4096 < l.length) : resV (rg0, 5) = resV (mkRes l) :=
  rf_at hbad h1 (y := y - 1) (by omega) (by omega) ((zAt_next hbad i1 i2 hy).trans (zs_zero (decide_eq_true (by omega)) hz)) (by decide)
theorem rf_inv (hbad : badU l l.length = false) (i1 : y ≤ ((l.length : Nat) : Int) - 2) (i2 : zAt l y = (0, x)) (hy : 0 ≤ y) (hz : x.zero = false) (h5 : (!(gfits (rg ((Cx.ofInt (1 : Int) (0 : Int)).div x)))) = true) (h1 : ¬ 4096 < l.length) : resV (rg0, 4) = resV (mkRes l) := by
  obtain ⟨g1, g2⟩ := gerr_1 (ntD h5)
  have h := (zAt_next hbad i1 i2 hy).trans (zs_inv (decide_eq_true (by omega)) hz g2)
  rw [show gerr (invC x) = 4 from g1] at h
  exact rf_at hbad h1 (y := y - 1) (by omega) (by omega) h (by decide)
theorem rf_add (hbad : badU l l.length = false) (i1 : y ≤ ((l.length : Nat) : Int) - 2) (i2 : zAt l y = (0, x)) (hy : 0 ≤ y) (hz : x.zero = false) (h5 : (!(gfits (rg ((Cx.ofInt (1 : Int) (0 : Int)).div x)))) = false) (h6 : (!(gfits (rg (((elC l y.toNat).1.2).add ((Cx.ofInt (1 : Int) (0 : Int)).div x))))) = true) (h1 : ¬ 4096 < l.length) : resV (rg0, 4) = resV (mkRes l) := by
  obtain ⟨g1, g2⟩ := gerr_1 (ntD h6)
  rw [cx_add_comm] at g1 g2
  have h := (zAt_next hbad i1 i2 hy).trans (zs_add (decide_eq_true (by omega)) hz (gerr_0 (nbD h5)) g2)
  rw [show gerr ((invC x).add (elC l y.toNat).1.2) = 4 from g1] at h
  exact rf_at hbad h1 (y := y - 1) (by omega) (by omega) h (by decide)
theorem rf_done (hbad : badU l l.length = false) (hy : -1 ≤ y) (i2 : zAt l y = (0, x)) (i3 : gfits (rg x) = true) (hn : ¬ 0 ≤ y) (h1 : ¬ 4096 < l.length) : resV (rg x, 0) = resV (mkRes l) := by
  have e : y = -1 := by omega
  subst e
  have h := i2
  unfold zAt at h
  rw [show (((l.length : Nat) : Int) - 1 - (-1)).toNat = l.length by omega] at h
  rw [← mk_done hbad h1 h]
  unfold gcut gerr
  rw [if_pos i3, if_pos i3]
end
end Go.Proofs.YtllohoibifcmdaaGreat
namespace Go.Proofs.YtllohoibifcmdaaGreat
open Go.RowKit Rgn
set_option maxHeartbeats 4000000
set_option maxRecDepth 100000
variable {S : Nat → Prop} {W : World}
set_option maxHeartbeats 4000000 in
theorem rMake {v0 : Value} (l : List RG) (t0 : GSl W v0 l) (p0 : l.length ≤ 1099511627776) :
  Calls Tryz.prog 12 #[v0] W (RetV (.tuple #[.agg #[.bool (mkRes l).1.re.a.n, .string (mkRes l).1.re.a.s, .bool (mkRes l).1.re.b.n, .string (mkRes l).1.re.b.s, .bool (mkRes l).1.im.a.n, .string (mkRes l).1.im.a.s, .bool (mkRes l).1.im.b.n, .string (mkRes l).1.im.b.s], .int .i64 (mkRes l).2]) W) := by
 obtain ⟨p_g0, c_g0, cur_g0, T_g0, fr_g0, rfl, y_g0, z_g0, P_g0, B_g0, Q_g0⟩ := GSl.open t0
 replace P_g0 := Lib.hid P_g0
 have X_g0 := GSl.lt B_g0
 have W_g0 := B_g0
 have o1 : ht (Cx.ofInt (1 : Int) (0 : Int)).re = 2 := by decide
 have o2 : ht (Cx.ofInt (1 : Int) (0 : Int)).im = 2 := by decide
 have bel := b0 W
 go_enter Tryz.func12, Tryz.ntmps12
 refine gs 2 (Amb Z0 W) fun _ K1 => ?_
 refine .al rfl zG ?_
 refine .mc rfl ?_
 refine .dk (fun u => .slice p_g0 l.length c_g0::U::u 0::u 1::us 60) K1 bel fun u1 w1 D bel => ?_
 obtain ⟨b2, E1_0, A_b2, B_b2⟩ := D.nw 0
 have E1_1 := D.q 1
 replace B_g0 := fun h => D.k (B_g0 h)
 clear D
 refine wp_seq_k fun _ K3 => ?_
 refine gs 3 (Amb Z0 W) fun _ K4 => ?_
 refine .mz rfl 0 (V := .slice p_g0 l.length c_g0) rfl ?_
 refine .e rfl (V := .int .i64 ((l.length : Nat) : Int)) (fun H => by have e8 := H.g 8 0; clear H; go_simp) ?_
 refine .e rfl (V := .bool (((l.length : Nat) : Int) == 0)) (fun H => x_cmp (H.g 9 1) (H.c _)) ?_
 refine .dk (fun u => .slice p_g0 l.length c_g0::U::u1 0::u1 1::U::U::U::U::sq u 0 3 (us 53)) K4 bel fun u2 w2 D bel => ?_
 have E2_2 := D.q 2
 replace B_b2 := D.k B_b2
 replace B_g0 := fun h => D.k (B_g0 h)
 clear D
 rcases Bool.eq_false_or_eq_true (((l.length : Nat) : Int) == 0) with c5 | c5
 ·
  refine wp_cond_true ((E2_2).trans (congrArg Value.bool c5)) ?_
  refine gs1 3 (Amb Z0 W) 1 B_b2 fun _ K6 => ?_
  refine .e rfl (V := .agg zG) (fun H => by clear H; go_simp) ?_
  refine .s1 rfl B_b2 (fun H => ⟨H.z 2 E1_0, H.g 11 0⟩) ?_
  refine .mc rfl ?_
  refine .d1 (fun u => .slice p_g0 l.length c_g0::U::u1 0::u 2::U::U::U::U::sq u2 0 3 (u 0::us 52)) K6 bel A_b2 fun u3 w3 D bel => ?_
  have E3_2 := D.q 2
  replace B_b2 := D.ol 1
  replace B_g0 := fun h => D.kk (B_g0 h) (no_cons (Nat.ne_of_gt (Nat.lt_of_lt_of_le (X_g0 h) A_b2)) (no_nil _))
  clear D
  refine wp_ret ?_
  refine ret_ok rfl (by exact results_mix rfl (by exact E1_0) B_b2 Tryz.underlying30 rfl (by kernel_rfl) (by exact E3_2)) (RetV.mk ?_ bel)
  exact congrArg Ending.returned (mk_empty c5)
 ·
  refine wp_cond_false ((E2_2).trans (congrArg Value.bool c5)) ?_
  refine wp_skip ?_
  refine K3 _ _ ?_
  refine wp_seq_k fun _ K7 => ?_
  have hne : l.length ≠ 0 := beq_len c5
  refine gs 1 (Amb Z0 W) fun _ K8 => ?_
  refine .mc rfl ?_
  refine .dk (fun u => .slice p_g0 l.length c_g0::U::u1 0::u1 1::u 0::U::U::U::sq u2 0 3 (us 53)) K8 bel fun u4 w4 D bel => ?_
  have E4_0 := D.q 0
  replace B_b2 := D.k B_b2
  replace B_g0 := fun h => D.k (B_g0 h)
  clear D
  refine wp_block ?_
  refine wp_loop_ghost_k (fun n_ a_ w_ => ∃ d3 : Value, ∃ s4 : Value, ∃ d5 : Value, ∃ d12 : Value, ∃ d13 : Value, ∃ d14 : Value, ∃ d15 : Value, ∃ d16 : Value, ∃ d17 : Value, ∃ d18 : Value, ∃ d19 : Value, ∃ d20 : Value, ∃ d21 : Value, ∃ d22 : Value, ∃ d23 : Value, ∃ d24 : Value, ∃ d25 : Value, ∃ k : Int, a_ = fr (.slice p_g0 l.length c_g0::U::u1 0::d3::s4::d5::U::U::sq u2 0 3 (U::d12::d13::d14::d15::d16::d17::d18::d19::d20::d21::d22::d23::d24::d25::us 38)) ∧ n_ = (((l.length : Nat) : Int) - k).toNat ∧ 0 ≤ k ∧ k ≤ ((l.length : Nat) : Int) ∧ (Hid (∀ j, j < k.toNat → gwhole (l.getD j rg0) = true)) ∧ s4 = .int .i64 k ∧ w_.heap[b2]? = some (.cells #[.bool false, .string ⟨#[]⟩, .bool false, .string ⟨#[]⟩, .bool false, .string ⟨#[]⟩, .bool false, .string ⟨#[]⟩] 30 (0, 0)) ∧ (l.length ≠ 0 → w_.heap[slB p_g0]? = some (.cells cur_g0 T_g0 fr_g0)) ∧ RowKit.Below W.heap.size W w_) ((((l.length : Nat) : Int) - 0).toNat) ⟨_, _, _, _, _, _, _, _, _, _, _, _, _, _, _, _, _, 0, rfl, rfl, by first | omega | exact Lib.hid (fun j hj => absurd hj (by simp)), by first | omega | exact Lib.hid (fun j hj => absurd hj (by simp)), by first | omega | exact Lib.hid (fun j hj => absurd hj (by simp)), (by exact E4_0), B_b2, B_g0, bel⟩ ?_
  clear B_b2 B_g0 bel
  rintro n_ _ w9 ⟨d3, s4, d5, d12, d13, d14, d15, d16, d17, d18, d19, d20, d21, d22, d23, d24, d25, k, rfl, hn12, i0, i1, i2, rfl, B_b2, B_g0, bel⟩ J10 K11 hJ10 hK11
  refine wp_seq_k fun _ K13 => ?_
  refine gs 4 (Amb Z0 W) fun _ K14 => ?_
  refine .mz rfl 4 (V := .int .i64 k) rfl ?_
  refine .mz rfl 0 (V := .slice p_g0 l.length c_g0) rfl ?_
  refine .e rfl (V := .int .i64 ((l.length : Nat) : Int)) (fun H => by have e13 := H.g 13 1; clear H; go_simp) ?_
  refine .e rfl (V := .bool (decide (k < ((l.length : Nat) : Int)))) (fun H => x_cmp (H.g 12 0) (H.g 14 2)) ?_
  refine .dk (fun u => .slice p_g0 l.length c_g0::U::u1 0::d3::.int .i64 k::d5::U::U::sq u2 0 3 (U::sq u 0 4 (d16::d17::d18::d19::d20::d21::d22::d23::d24::d25::us 38))) K14 bel fun u5 w5 D bel => ?_
  have E5_0 := D.q 0
  have E5_1 := D.q 1
  have E5_2 := D.q 2
  have E5_3 := D.q 3
  replace B_b2 := D.k B_b2
  replace B_g0 := fun h => D.k (B_g0 h)
  clear D
  rcases Bool.eq_false_or_eq_true (decide (k < ((l.length : Nat) : Int))) with c15 | c15
  ·
   refine wp_cond_true ((E5_3).trans (congrArg Value.bool c15)) ?_
   have dc15 := of_decide_eq_true c15
   refine wp_skip ?_
   refine K13 _ _ ?_
   refine wp_seq_k fun _ K16 => ?_
   refine wp_block ?_
   refine gs 6 (Amb Z0 W) fun _ K17 => ?_
   refine .mz rfl 0 (V := .slice p_g0 l.length c_g0) rfl ?_
   refine .mz rfl 4 (V := .int .i64 k) rfl ?_
   refine Go2.eq (i := 2) rfl (G0 rfl) (V := .pointer (some ⟨slB p_g0, slO p_g0 + 8 * k.toNat, none⟩)) (by intro u μ ρ H; have e18 := H.g 18 0; have e19 := H.g 19 1; exact ex_index_gl rfl e18 e19 (by omega) (by omega) P_g0.out) ?_
   refine Go2.eq (i := 3) rfl (G0 rfl) (V := rgV (l.getD k.toNat rg0)) (by intro u μ ρ H; have e20 := H.g 20 2; exact ex_load_gl rfl e20 (H.blk (B_g0 (by omega)) (Nat.le_refl _) (no_nil _)) Q_g0 (by omega)) ?_
   refine .cK rfl Tryz.func27 (fun H => ⟨_, ar1 (H.g 21 3), cWhole _⟩) ?_
   refine .mv rfl 4 ?_
   refine .dk (fun u => .slice p_g0 l.length c_g0::U::u1 0::d3::.int .i64 k::u 5::U::U::sq u2 0 3 (U::sq u5 0 4 (d16::d17::sq u 0 5 (d23::d24::d25::us 38)))) K17 bel fun u6 w6 D bel => ?_
   have E6_0 := D.q 0
   have E6_1 := D.q 1
   have E6_2 := D.q 2
   have E6_3 := D.q 3
   have E6_4 := D.q 4
   have E6_5 := D.q 5
   replace B_b2 := D.k B_b2
   replace B_g0 := fun h => D.k (B_g0 h)
   clear D
   refine gs 2 (Amb Z0 W) fun _ K18 => ?_
   refine .mz rfl 5 E6_5 ?_
   refine .e rfl (V := .bool (!(gwhole (l.getD k.toNat rg0)))) (fun H => x_not (H.g 23 0)) ?_
   refine .dk (fun u => .slice p_g0 l.length c_g0::U::u1 0::d3::.int .i64 k::u6 5::U::U::sq u2 0 3 (U::sq u5 0 4 (d16::d17::sq u6 0 5 (u 0::u 1::d25::us 38)))) K18 bel fun u7 w7 D bel => ?_
   have E7_0 := D.q 0
   have E7_1 := D.q 1
   replace B_b2 := D.k B_b2
   replace B_g0 := fun h => D.k (B_g0 h)
   clear D
   rcases Bool.eq_false_or_eq_true (!(gwhole (l.getD k.toNat rg0))) with c19 | c19
   ·
    refine wp_cond_true ((E7_1).trans (congrArg Value.bool c19)) ?_
    refine gs1 3 (Amb Z0 W) 1 B_b2 fun _ K20 => ?_
    refine .e rfl (V := .agg zG) (fun H => by clear H; go_simp) ?_
    refine .s1 rfl B_b2 (fun H => ⟨H.z 2 E1_0, H.g 25 0⟩) ?_
    refine .mc rfl ?_
    refine .d1 (fun u => .slice p_g0 l.length c_g0::U::u1 0::u 2::.int .i64 k::u6 5::U::U::sq u2 0 3 (U::sq u5 0 4 (d16::d17::sq u6 0 5 (u7 0::u7 1::u 0::us 38)))) K20 bel A_b2 fun u8 w8 D bel => ?_
    have E8_2 := D.q 2
    replace B_b2 := D.ol 1
    replace B_g0 := fun h => D.kk (B_g0 h) (no_cons (Nat.ne_of_gt (Nat.lt_of_lt_of_le (X_g0 h) A_b2)) (no_nil _))
    clear D
    refine wp_ret ?_
    refine ret_ok rfl (by exact results_mix rfl (by exact E1_0) B_b2 Tryz.underlying30 rfl (by kernel_rfl) (by exact E8_2)) (RetV.mk ?_ bel)
    exact congrArg Ending.returned (mk_some hne i0 dc15 c19)
   ·
    refine wp_cond_false ((E7_1).trans (congrArg Value.bool c19)) ?_
    refine wp_skip ?_
    refine inBlock_normal ?_
    refine K16 _ _ ?_
    refine wp_region_list ?_
    refine wpT_val rfl (ex_move rfl) ?_
    refine wpT_val (v := .int .i64 (k + 1)) rfl (by have aw_ : IntKind.wrap .i64 (k + 1) = k + 1 := IntWalk.i64_in _ (by omega); go_simp) ?_
    refine wpT_val rfl (ex_assign rfl) ?_
    refine wpList_nil ?_
    show _
    refine hK11 _ _ (Handed.intro ((((l.length : Nat) : Int) - (k + 1)).toNat) (by rw [hn12]; omega) (hJ10 _ _ _ ⟨_, _, _, _, _, _, _, _, _, _, _, _, _, _, _, _, _, k + 1, rfl, rfl, by first | omega | exact Lib.hid (whole_step i0 i2.out c19), by first | omega | exact Lib.hid (whole_step i0 i2.out c19), by first | omega | exact Lib.hid (whole_step i0 i2.out c19), rfl, B_b2, B_g0, bel⟩))
  ·
   refine wp_cond_false ((E5_3).trans (congrArg Value.bool c15)) ?_
   have dc15 := of_decide_eq_false c15
   refine wp_exit ?_
   refine then_exit ?_
   refine then_exit ?_
   refine inBlock_here ?_
   refine K7 _ _ ?_
   refine wp_seq_k fun _ K21 => ?_
   have hbad := whole_all hne i1 dc15 i2.out
   refine gs 3 (Amb Z0 W) fun _ K22 => ?_
   refine .mz rfl 0 (V := .slice p_g0 l.length c_g0) rfl ?_
   refine .e rfl (V := .int .i64 ((l.length : Nat) : Int)) (fun H => by have e26 := H.g 26 0; clear H; go_simp) ?_
   refine .e rfl (V := .bool (decide (4096 < ((l.length : Nat) : Int)))) (fun H => x_cmp (H.g 27 1) (H.c _)) ?_
   refine .dk (fun u => .slice p_g0 l.length c_g0::U::u1 0::d3::.int .i64 k::d5::U::U::sq u2 0 3 (U::sq u5 0 4 (d16::d17::d18::d19::d20::d21::d22::d23::d24::d25::sq u 0 3 (us 35)))) K22 bel fun u10 w10 D bel => ?_
   have E10_2 := D.q 2
   replace B_b2 := D.k B_b2
   replace B_g0 := fun h => D.k (B_g0 h)
   clear D
   rcases Bool.eq_false_or_eq_true (decide (4096 < ((l.length : Nat) : Int))) with c23 | c23
   ·
    refine wp_cond_true ((E10_2).trans (congrArg Value.bool c23)) ?_
    have dc23 := of_decide_eq_true c23
    refine gs1 3 (Amb Z0 W) 1 B_b2 fun _ K24 => ?_
    refine .e rfl (V := .agg zG) (fun H => by clear H; go_simp) ?_
    refine .s1 rfl B_b2 (fun H => ⟨H.z 2 E1_0, H.g 29 0⟩) ?_
    refine .mc rfl ?_
    refine .d1 (fun u => .slice p_g0 l.length c_g0::U::u1 0::u 2::.int .i64 k::d5::U::U::sq u2 0 3 (U::sq u5 0 4 (d16::d17::d18::d19::d20::d21::d22::d23::d24::d25::sq u10 0 3 (u 0::us 34)))) K24 bel A_b2 fun u11 w11 D bel => ?_
    have E11_2 := D.q 2
    replace B_b2 := D.ol 1
    replace B_g0 := fun h => D.kk (B_g0 h) (no_cons (Nat.ne_of_gt (Nat.lt_of_lt_of_le (X_g0 h) A_b2)) (no_nil _))
    clear D
    refine wp_ret ?_
    refine ret_ok rfl (by exact results_mix rfl (by exact E1_0) B_b2 Tryz.underlying30 rfl (by kernel_rfl) (by exact E11_2)) (RetV.mk ?_ bel)
    exact congrArg Ending.returned (mk_long hbad (by omega))
   ·
    refine wp_cond_false ((E10_2).trans (congrArg Value.bool c23)) ?_
    have dc23 := of_decide_eq_false c23
    refine wp_skip ?_
    refine K21 _ _ ?_
    refine gs 8 (Amb Z0 W) fun _ K25 => ?_
    refine .mz rfl 0 (V := .slice p_g0 l.length c_g0) rfl ?_
    refine .mz rfl 0 (V := .slice p_g0 l.length c_g0) rfl ?_
    refine .e rfl (V := .int .i64 ((l.length : Nat) : Int)) (fun H => by have e31 := H.g 31 1; clear H; go_simp) ?_
    refine .e rfl (V := .int .i64 (((l.length : Nat) : Int) - 1)) (fun H => x_ari (H.g 32 2) (H.c _) (IntWalk.i64_in _ (by omega))) ?_
    refine Go2.eq (i := 4) rfl (G0 rfl) (V := .pointer (some ⟨slB p_g0, slO p_g0 + 8 * (((l.length : Nat) : Int) - 1).toNat, none⟩)) (by intro u μ ρ H; have e30 := H.g 30 0; have e33 := H.g 33 3; exact ex_index_gl rfl e30 e33 (by omega) (by omega) P_g0.out) ?_
    refine Go2.eq (i := 5) rfl (G0 rfl) (V := gV ((elC l (((l.length : Nat) : Int) - 1).toNat).1.2)) (by intro u μ ρ H; have e34 := H.g 34 4; exact ex_load_el hbad rfl e34 (H.blk (B_g0 (by omega)) (Nat.le_refl _) (no_nil _)) Q_g0 (by omega)) ?_
    refine .al rfl zG ?_
    refine .so rfl 6 (fun H => ⟨H.r 6 6, H.g 35 5⟩) ?_
    refine .dk (fun u => .slice p_g0 l.length c_g0::U::u1 0::d3::.int .i64 k::d5::u 6::U::sq u2 0 3 (U::sq u5 0 4 (d16::d17::d18::d19::d20::d21::d22::d23::d24::d25::sq u10 0 3 (U::sq u 0 6 (us 28))))) K25 bel fun u12 w12 D bel => ?_
    obtain ⟨b26, E12_6, A_b26, B_b26⟩ := D.st 7
    have N_b2_b26 := D.n1 6 (lt_of B_b2) E12_6
    replace B_b2 := D.k B_b2
    replace B_g0 := fun h => D.k (B_g0 h)
    clear D
    refine wp_seq_k fun _ K27 => ?_
    refine gs 4 (Amb Z0 W) fun _ K28 => ?_
    refine .mz rfl 0 (V := .slice p_g0 l.length c_g0) rfl ?_
    refine .e rfl (V := .int .i64 ((l.length : Nat) : Int)) (fun H => by have e36 := H.g 36 0; clear H; go_simp) ?_
    refine .e rfl (V := .int .i64 (((l.length : Nat) : Int) - 2)) (fun H => x_ari (H.g 37 1) (H.c _) (IntWalk.i64_in _ (by omega))) ?_
    refine .mv rfl 2 ?_
    refine .dk (fun u => .slice p_g0 l.length c_g0::U::u1 0::d3::.int .i64 k::d5::u12 6::u 3::sq u2 0 3 (U::sq u5 0 4 (d16::d17::d18::d19::d20::d21::d22::d23::d24::d25::sq u10 0 3 (U::sq u12 0 6 (sq u 0 3 (us 25)))))) K28 bel fun u13 w13 D bel => ?_
    have E13_3 := D.q 3
    replace B_b2 := D.k B_b2
    replace B_b26 := D.k B_b26
    replace B_g0 := fun h => D.k (B_g0 h)
    clear D
    refine wp_block ?_
    refine wp_loop_ghost_k (fun n_ a_ w_ => ∃ d3 : Value, ∃ s7 : Value, ∃ d39 : Value, ∃ d40 : Value, ∃ d41 : Value, ∃ d42 : Value, ∃ d43 : Value, ∃ d44 : Value, ∃ d45 : Value, ∃ d46 : Value, ∃ d47 : Value, ∃ d48 : Value, ∃ d49 : Value, ∃ d50 : Value, ∃ d51 : Value, ∃ d52 : Value, ∃ d53 : Value, ∃ d54 : Value, ∃ d55 : Value, ∃ d56 : Value, ∃ d57 : Value, ∃ d58 : Value, ∃ d59 : Value, ∃ d60 : Value, ∃ d61 : Value, ∃ d62 : Value, ∃ y : Int, ∃ x : Cx, a_ = fr (.slice p_g0 l.length c_g0::U::u1 0::d3::.int .i64 k::d5::u12 6::s7::sq u2 0 3 (U::sq u5 0 4 (d16::d17::d18::d19::d20::d21::d22::d23::d24::d25::sq u10 0 3 (U::sq u12 0 6 (sq u13 0 3 (d39::d40::d41::d42::d43::d44::d45::d46::d47::d48::d49::d50::d51::d52::d53::d54::d55::d56::d57::d58::d59::d60::d61::d62::U::[])))))) ∧ n_ = (y + 1).toNat ∧ -1 ≤ y ∧ y ≤ ((l.length : Nat) : Int) - 2 ∧ zAt l y = (0, x) ∧ gfits (rg x) = true ∧ s7 = .int .i64 y ∧ w_.heap[b2]? = some (.cells #[.bool false, .string ⟨#[]⟩, .bool false, .string ⟨#[]⟩, .bool false, .string ⟨#[]⟩, .bool false, .string ⟨#[]⟩] 30 (0, 0)) ∧ w_.heap[b26]? = some (.cells #[.bool (decide (x.re.num < 0)), .string (bS x.re.num.natAbs), .bool (decide ((x.re.den : Int) < 0)), .string (bS (x.re.den : Int).natAbs), .bool (decide (x.im.num < 0)), .string (bS x.im.num.natAbs), .bool (decide ((x.im.den : Int) < 0)), .string (bS (x.im.den : Int).natAbs)] 30 (0, 0)) ∧ (l.length ≠ 0 → w_.heap[slB p_g0]? = some (.cells cur_g0 T_g0 fr_g0)) ∧ RowKit.Below W.heap.size W w_) (((((l.length : Nat) : Int) - 2) + 1).toNat) ⟨_, _, _, _, _, _, _, _, _, _, _, _, _, _, _, _, _, _, _, _, _, _, _, _, _, _, ((l.length : Nat) : Int) - 2, (elC l (((l.length : Nat) : Int) - 1).toNat).1.2, rfl, rfl, by first | omega | exact zAt_start hbad | exact elC_fits hbad (by omega), by first | omega | exact zAt_start hbad | exact elC_fits hbad (by omega), by first | omega | exact zAt_start hbad | exact elC_fits hbad (by omega), by first | omega | exact zAt_start hbad | exact elC_fits hbad (by omega), (by exact E13_3), B_b2, B_b26, B_g0, bel⟩ ?_
    clear B_b2 B_b26 B_g0 bel
    rintro n_ _ w29 ⟨d3, s7, d39, d40, d41, d42, d43, d44, d45, d46, d47, d48, d49, d50, d51, d52, d53, d54, d55, d56, d57, d58, d59, d60, d61, d62, y, x, rfl, hn32, i0, i1, i2, i3, rfl, B_b2, B_b26, B_g0, bel⟩ J30 K31 hJ30 hK31
    refine wp_seq_k fun _ K33 => ?_
    refine gs 2 (Amb Z0 W) fun _ K34 => ?_
    refine .mz rfl 7 (V := .int .i64 y) rfl ?_
    refine .e rfl (V := .bool (decide (0 ≤ y))) (fun H => x_cmp (H.g 39 0) (H.c _)) ?_
    refine .dk (fun u => .slice p_g0 l.length c_g0::U::u1 0::d3::.int .i64 k::d5::u12 6::.int .i64 y::sq u2 0 3 (U::sq u5 0 4 (d16::d17::d18::d19::d20::d21::d22::d23::d24::d25::sq u10 0 3 (U::sq u12 0 6 (sq u13 0 3 (u 0::u 1::d41::d42::d43::d44::d45::d46::d47::d48::d49::d50::d51::d52::d53::d54::d55::d56::d57::d58::d59::d60::d61::d62::U::[])))))) K34 bel fun u14 w14 D bel => ?_
    have E14_0 := D.q 0
    have E14_1 := D.q 1
    replace B_b2 := D.k B_b2
    replace B_b26 := D.k B_b26
    replace B_g0 := fun h => D.k (B_g0 h)
    clear D
    rcases Bool.eq_false_or_eq_true (decide (0 ≤ y)) with c35 | c35
    ·
     refine wp_cond_true ((E14_1).trans (congrArg Value.bool c35)) ?_
     have dc35 := of_decide_eq_true c35
     refine wp_skip ?_
     refine K33 _ _ ?_
     refine wp_seq_k fun _ K36 => ?_
     refine wp_block ?_
     refine wp_seq_k fun _ K37 => ?_
     refine gs 2 (Amb Z0 W) fun _ K38 => ?_
     refine .lr rfl 6 E12_6 B_b26 ?_
     refine .cK rfl Tryz.func35 (fun H => ⟨_, ar1 (H.g 43 0), cZero _⟩) ?_
     refine .dk (fun u => .slice p_g0 l.length c_g0::U::u1 0::d3::.int .i64 k::d5::u12 6::.int .i64 y::sq u2 0 3 (U::sq u5 0 4 (d16::d17::d18::d19::d20::d21::d22::d23::d24::d25::sq u10 0 3 (U::sq u12 0 6 (sq u13 0 3 (u14 0::u14 1::d41::d42::u 0::u 1::d45::d46::d47::d48::d49::d50::d51::d52::d53::d54::d55::d56::d57::d58::d59::d60::d61::d62::U::[])))))) K38 bel fun u15 w15 D bel => ?_
     have E15_0 := D.q 0
     have E15_1 := D.q 1
     replace B_b2 := D.k B_b2
     replace B_b26 := D.k B_b26
     replace B_g0 := fun h => D.k (B_g0 h)
     clear D
     rcases Bool.eq_false_or_eq_true x.zero with c39 | c39
     ·
      refine wp_cond_true ((E15_1).trans (congrArg Value.bool c39)) ?_
      refine gs1 3 (Amb Z0 W) 1 B_b2 fun _ K40 => ?_
      refine .e rfl (V := .agg zG) (fun H => by clear H; go_simp) ?_
      refine .s1 rfl B_b2 (fun H => ⟨H.z 2 E1_0, H.g 45 0⟩) ?_
      refine .mc rfl ?_
      refine .d1 (fun u => .slice p_g0 l.length c_g0::U::u1 0::u 2::.int .i64 k::d5::u12 6::.int .i64 y::sq u2 0 3 (U::sq u5 0 4 (d16::d17::d18::d19::d20::d21::d22::d23::d24::d25::sq u10 0 3 (U::sq u12 0 6 (sq u13 0 3 (u14 0::u14 1::d41::d42::u15 0::u15 1::u 0::d46::d47::d48::d49::d50::d51::d52::d53::d54::d55::d56::d57::d58::d59::d60::d61::d62::U::[])))))) K40 bel A_b2 fun u16 w16 D bel => ?_
      have E16_2 := D.q 2
      replace B_b2 := D.ol 1
      replace B_g0 := fun h => D.kk (B_g0 h) (no_cons (Nat.ne_of_gt (Nat.lt_of_lt_of_le (X_g0 h) A_b2)) (no_nil _))
      clear D
      refine wp_ret ?_
      refine ret_ok rfl (by exact results_mix rfl (by exact E1_0) B_b2 Tryz.underlying30 rfl (by kernel_rfl) (by exact E16_2)) (RetV.mk ?_ bel)
      exact congrArg Ending.returned (rf_zero hbad i1 i2 dc35 c39 (by omega))
     ·
      refine wp_cond_false ((E15_1).trans (congrArg Value.bool c39)) ?_
      refine wp_skip ?_
      refine K37 _ _ ?_
      refine gd1 4 (Amb Z0 W) 3 B_b26 fun _ K41 => ?_
      refine .cK rfl Tryz.func59 (fun H => ⟨_, ar2 (H.c (.int .i64 1)) (H.c (.int .i64 0)), cInt _ _ (by first | omega | exact zero_norm c39 | (have k1 := gfits_ht2 i3; omega) | (have k1 := gfits_ht2 (nbD x_x); have k2 := (elC l y.toNat).2; omega)) (by first | omega | exact zero_norm c39 | (have k1 := gfits_ht2 i3; omega) | (have k1 := gfits_ht2 (nbD x_x); have k2 := (elC l y.toNat).2; omega)) (by first | omega | exact zero_norm c39 | (have k1 := gfits_ht2 i3; omega) | (have k1 := gfits_ht2 (nbD x_x); have k2 := (elC l y.toNat).2; omega)) (by first | omega | exact zero_norm c39 | (have k1 := gfits_ht2 i3; omega) | (have k1 := gfits_ht2 (nbD x_x); have k2 := (elC l y.toNat).2; omega))⟩) ?_
      refine .e rfl (fun H => x_ldr (H.z 6 E12_6) (H.bo B_b26 0 3)) ?_
      refine .cK rfl Tryz.func58 (fun H => ⟨_, ar2 (H.g 46 0) (H.g 47 1), cOver _ _ (by first | omega | exact zero_norm c39 | (have k1 := gfits_ht2 i3; omega) | (have k1 := gfits_ht2 (nbD x_x); have k2 := (elC l y.toNat).2; omega)) (by first | omega | exact zero_norm c39 | (have k1 := gfits_ht2 i3; omega) | (have k1 := gfits_ht2 (nbD x_x); have k2 := (elC l y.toNat).2; omega))⟩) ?_
      refine .s1 rfl B_b26 (fun H => ⟨H.z 6 E12_6, H.g 48 2⟩) ?_
      refine .d1 (fun u => .slice p_g0 l.length c_g0::U::u1 0::d3::.int .i64 k::d5::u12 6::.int .i64 y::sq u2 0 3 (U::sq u5 0 4 (d16::d17::d18::d19::d20::d21::d22::d23::d24::d25::sq u10 0 3 (U::sq u12 0 6 (sq u13 0 3 (u14 0::u14 1::d41::d42::u15 0::u15 1::d45::sq u 0 3 (d49::d50::d51::d52::d53::d54::d55::d56::d57::d58::d59::d60::d61::d62::U::[]))))))) K41 bel A_b26 fun u17 w17 D bel => ?_
      have E17_0 := D.q 0
      have E17_1 := D.q 1
      have E17_2 := D.q 2
      replace B_b2 := D.k1 B_b2 (Ne.symm N_b2_b26)
      replace B_b26 := D.ol 3
      replace B_g0 := fun h => D.kk (B_g0 h) (no_cons (Nat.ne_of_gt (Nat.lt_of_lt_of_le (X_g0 h) A_b26)) (no_nil _))
      clear D
      refine wp_seq_k fun _ K42 => ?_
      refine gs 3 (Amb Z0 W) fun _ K43 => ?_
      refine .lr rfl 6 E12_6 B_b26 ?_
      refine .cK rfl Tryz.func60 (fun H => ⟨_, ar1 (H.g 49 0), cFits (rg ((Cx.ofInt (1 : Int) (0 : Int)).div x))⟩) ?_
      refine .e rfl (V := .bool (!(gfits (rg ((Cx.ofInt (1 : Int) (0 : Int)).div x))))) (fun H => x_not (H.g 50 1)) ?_
      refine .dk (fun u => .slice p_g0 l.length c_g0::U::u1 0::d3::.int .i64 k::d5::u12 6::.int .i64 y::sq u2 0 3 (U::sq u5 0 4 (d16::d17::d18::d19::d20::d21::d22::d23::d24::d25::sq u10 0 3 (U::sq u12 0 6 (sq u13 0 3 (u14 0::u14 1::d41::d42::u15 0::u15 1::d45::sq u17 0 3 (sq u 0 3 (d52::d53::d54::d55::d56::d57::d58::d59::d60::d61::d62::U::[])))))))) K43 bel fun u18 w18 D bel => ?_
      have E18_0 := D.q 0
      have E18_1 := D.q 1
      have E18_2 := D.q 2
      replace B_b2 := D.k B_b2
      replace B_b26 := D.k B_b26
      replace B_g0 := fun h => D.k (B_g0 h)
      clear D
      rcases Bool.eq_false_or_eq_true (!(gfits (rg ((Cx.ofInt (1 : Int) (0 : Int)).div x)))) with c44 | c44
      ·
       refine wp_cond_true ((E18_2).trans (congrArg Value.bool c44)) ?_
       refine gs1 3 (Amb Z0 W) 1 B_b2 fun _ K45 => ?_
       refine .e rfl (V := .agg zG) (fun H => by clear H; go_simp) ?_
       refine .s1 rfl B_b2 (fun H => ⟨H.z 2 E1_0, H.g 52 0⟩) ?_
       refine .mc rfl ?_
       refine .d1 (fun u => .slice p_g0 l.length c_g0::U::u1 0::u 2::.int .i64 k::d5::u12 6::.int .i64 y::sq u2 0 3 (U::sq u5 0 4 (d16::d17::d18::d19::d20::d21::d22::d23::d24::d25::sq u10 0 3 (U::sq u12 0 6 (sq u13 0 3 (u14 0::u14 1::d41::d42::u15 0::u15 1::d45::sq u17 0 3 (sq u18 0 3 (u 0::d53::d54::d55::d56::d57::d58::d59::d60::d61::d62::U::[])))))))) K45 bel A_b2 fun u19 w19 D bel => ?_
       have E19_2 := D.q 2
       replace B_b2 := D.ol 1
       replace B_g0 := fun h => D.kk (B_g0 h) (no_cons (Nat.ne_of_gt (Nat.lt_of_lt_of_le (X_g0 h) A_b2)) (no_nil _))
       clear D
       refine wp_ret ?_
       refine ret_ok rfl (by exact results_mix rfl (by exact E1_0) B_b2 Tryz.underlying30 rfl (by kernel_rfl) (by exact E19_2)) (RetV.mk ?_ bel)
       exact congrArg Ending.returned (rf_inv hbad i1 i2 dc35 c39 c44 (by omega))
      ·
       refine wp_cond_false ((E18_2).trans (congrArg Value.bool c44)) ?_
       refine wp_skip ?_
       refine K42 _ _ ?_
       refine gd1 7 (Amb Z0 W) 6 B_b26 fun _ K46 => ?_
       refine .mz rfl 0 (V := .slice p_g0 l.length c_g0) rfl ?_
       refine .mz rfl 7 (V := .int .i64 y) rfl ?_
       refine Go2.eq (i := 2) rfl (G0 rfl) (V := .pointer (some ⟨slB p_g0, slO p_g0 + 8 * y.toNat, none⟩)) (by intro u μ ρ H; have e53 := H.g 53 0; have e54 := H.g 54 1; exact ex_index_gl rfl e53 e54 (by omega) (by omega) P_g0.out) ?_
       refine Go2.eq (i := 3) rfl (G0 rfl) (V := gV ((elC l y.toNat).1.2)) (by intro u μ ρ H; have e55 := H.g 55 2; exact ex_load_el hbad rfl e55 (H.blk (B_g0 (by omega)) (Nat.le_refl _) (no_cons (Nat.ne_of_gt (Nat.lt_of_lt_of_le (X_g0 (by omega)) A_b26)) (no_nil _))) Q_g0 (by omega)) ?_
       refine .e rfl (fun H => x_ldr (H.z 6 E12_6) (H.bo B_b26 0 6)) ?_
       refine .cK rfl Tryz.func61 (fun H => ⟨_, ar2 (H.g 56 3) (H.g 57 4), cPlus _ _ (by first | omega | exact zero_norm c39 | (have k1 := gfits_ht2 i3; omega) | (have k1 := gfits_ht2 (nbD c44); have k2 := (elC l y.toNat).2; omega))⟩) ?_
       refine .s1 rfl B_b26 (fun H => ⟨H.z 6 E12_6, H.g 58 5⟩) ?_
       refine .d1 (fun u => .slice p_g0 l.length c_g0::U::u1 0::d3::.int .i64 k::d5::u12 6::.int .i64 y::sq u2 0 3 (U::sq u5 0 4 (d16::d17::d18::d19::d20::d21::d22::d23::d24::d25::sq u10 0 3 (U::sq u12 0 6 (sq u13 0 3 (u14 0::u14 1::d41::d42::u15 0::u15 1::d45::sq u17 0 3 (sq u18 0 3 (d52::sq u 0 6 (d59::d60::d61::d62::U::[]))))))))) K46 bel A_b26 fun u20 w20 D bel => ?_
       have E20_0 := D.q 0
       have E20_1 := D.q 1
       have E20_2 := D.q 2
       have E20_3 := D.q 3
       have E20_4 := D.q 4
       have E20_5 := D.q 5
       replace B_b2 := D.k1 B_b2 (Ne.symm N_b2_b26)
       replace B_b26 := D.ol 6
       replace B_g0 := fun h => D.kk (B_g0 h) (no_cons (Nat.ne_of_gt (Nat.lt_of_lt_of_le (X_g0 h) A_b26)) (no_nil _))
       clear D
       refine gs 3 (Amb Z0 W) fun _ K47 => ?_
       refine .lr rfl 6 E12_6 B_b26 ?_
       refine .cK rfl Tryz.func60 (fun H => ⟨_, ar1 (H.g 59 0), cFits (rg (((elC l y.toNat).1.2).add ((Cx.ofInt (1 : Int) (0 : Int)).div x)))⟩) ?_
       refine .e rfl (V := .bool (!(gfits (rg (((elC l y.toNat).1.2).add ((Cx.ofInt (1 : Int) (0 : Int)).div x)))))) (fun H => x_not (H.g 60 1)) ?_
       refine .dk (fun u => .slice p_g0 l.length c_g0::U::u1 0::d3::.int .i64 k::d5::u12 6::.int .i64 y::sq u2 0 3 (U::sq u5 0 4 (d16::d17::d18::d19::d20::d21::d22::d23::d24::d25::sq u10 0 3 (U::sq u12 0 6 (sq u13 0 3 (u14 0::u14 1::d41::d42::u15 0::u15 1::d45::sq u17 0 3 (sq u18 0 3 (d52::sq u20 0 6 (sq u 0 3 (d62::U::[])))))))))) K47 bel fun u21 w21 D bel => ?_
       have E21_0 := D.q 0
       have E21_1 := D.q 1
       have E21_2 := D.q 2
       replace B_b2 := D.k B_b2
       replace B_b26 := D.k B_b26
       replace B_g0 := fun h => D.k (B_g0 h)
       clear D
       rcases Bool.eq_false_or_eq_true (!(gfits (rg (((elC l y.toNat).1.2).add ((Cx.ofInt (1 : Int) (0 : Int)).div x))))) with c48 | c48
       ·
        refine wp_cond_true ((E21_2).trans (congrArg Value.bool c48)) ?_
        refine gs1 3 (Amb Z0 W) 1 B_b2 fun _ K49 => ?_
        refine .e rfl (V := .agg zG) (fun H => by clear H; go_simp) ?_
        refine .s1 rfl B_b2 (fun H => ⟨H.z 2 E1_0, H.g 62 0⟩) ?_
        refine .mc rfl ?_
        refine .d1 (fun u => .slice p_g0 l.length c_g0::U::u1 0::u 2::.int .i64 k::d5::u12 6::.int .i64 y::sq u2 0 3 (U::sq u5 0 4 (d16::d17::d18::d19::d20::d21::d22::d23::d24::d25::sq u10 0 3 (U::sq u12 0 6 (sq u13 0 3 (u14 0::u14 1::d41::d42::u15 0::u15 1::d45::sq u17 0 3 (sq u18 0 3 (d52::sq u20 0 6 (sq u21 0 3 (u 0::U::[])))))))))) K49 bel A_b2 fun u22 w22 D bel => ?_
        have E22_2 := D.q 2
        replace B_b2 := D.ol 1
        replace B_g0 := fun h => D.kk (B_g0 h) (no_cons (Nat.ne_of_gt (Nat.lt_of_lt_of_le (X_g0 h) A_b2)) (no_nil _))
        clear D
        refine wp_ret ?_
        refine ret_ok rfl (by exact results_mix rfl (by exact E1_0) B_b2 Tryz.underlying30 rfl (by kernel_rfl) (by exact E22_2)) (RetV.mk ?_ bel)
        exact congrArg Ending.returned (rf_add hbad i1 i2 dc35 c39 c44 c48 (by omega))
       ·
        refine wp_cond_false ((E21_2).trans (congrArg Value.bool c48)) ?_
        refine wp_skip ?_
        refine inBlock_normal ?_
        refine K36 _ _ ?_
        refine wp_region_list ?_
        refine wpT_val rfl (ex_move rfl) ?_
        refine wpT_val (v := .int .i64 (y - 1)) rfl (by have aw_ : IntKind.wrap .i64 (y - 1) = y - 1 := IntWalk.i64_in _ (by omega); go_simp) ?_
        refine wpT_val rfl (ex_assign rfl) ?_
        refine wpList_nil ?_
        show _
        refine hK31 _ _ (Handed.intro (((y - 1) + 1).toNat) (by rw [hn32]; omega) (hJ30 _ _ _ ⟨_, _, _, _, _, _, _, _, _, _, _, _, _, _, _, _, _, _, _, _, _, _, _, _, _, _, y - 1, ((elC l y.toNat).1.2).add ((Cx.ofInt (1 : Int) (0 : Int)).div x), rfl, rfl, by first | omega | exact zAt_ok hbad i1 i2 dc35 c39 c44 c48 | exact nbD c48, by first | omega | exact zAt_ok hbad i1 i2 dc35 c39 c44 c48 | exact nbD c48, by first | omega | exact zAt_ok hbad i1 i2 dc35 c39 c44 c48 | exact nbD c48, by first | omega | exact zAt_ok hbad i1 i2 dc35 c39 c44 c48 | exact nbD c48, rfl, B_b2, B_b26, B_g0, bel⟩))
    ·
     refine wp_cond_false ((E14_1).trans (congrArg Value.bool c35)) ?_
     have dc35 := of_decide_eq_false c35
     refine wp_exit ?_
     refine then_exit ?_
     refine then_exit ?_
     refine inBlock_here ?_
     refine K27 _ _ ?_
     refine gs1 3 (Amb Z0 W) 1 B_b2 fun _ K50 => ?_
     refine .e rfl (fun H => x_ldr (H.z 6 E12_6) (H.b1 B_b26 N_b2_b26)) ?_
     refine .s1 rfl B_b2 (fun H => ⟨H.z 2 E1_0, H.g 63 0⟩) ?_
     refine .mc rfl ?_
     refine .d1 (fun u => .slice p_g0 l.length c_g0::U::u1 0::u 2::.int .i64 k::d5::u12 6::.int .i64 y::sq u2 0 3 (U::sq u5 0 4 (d16::d17::d18::d19::d20::d21::d22::d23::d24::d25::sq u10 0 3 (U::sq u12 0 6 (sq u13 0 3 (u14 0::u14 1::d41::d42::d43::d44::d45::d46::d47::d48::d49::d50::d51::d52::d53::d54::d55::d56::d57::d58::d59::d60::d61::d62::u 0::[])))))) K50 bel A_b2 fun u24 w24 D bel => ?_
     have E24_2 := D.q 2
     replace B_b2 := D.ol 1
     replace B_g0 := fun h => D.kk (B_g0 h) (no_cons (Nat.ne_of_gt (Nat.lt_of_lt_of_le (X_g0 h) A_b2)) (no_nil _))
     clear D
     refine wp_ret ?_
     refine ret_ok rfl (by exact results_mix rfl (by exact E1_0) B_b2 Tryz.underlying30 rfl (by kernel_rfl) (by exact E24_2)) (RetV.mk ?_ bel)
     exact congrArg Ending.returned (rf_done hbad i0 i2 i3 dc35 (by omega))
end Go.Proofs.YtllohoibifcmdaaGreat
namespace Go.Proofs.YtllohoibifcmdaaGreat
open Go.RowKit Rgn
def flat (l : List RG) : List Value := l.flatMap rgc
theorem flat_cons (x : RG) (l : List RG) : flat (x :: l) = rgc x ++ flat l := rfl
theorem flat_len (l : List RG) : (flat l).length = l.length * 8 := by
  induction l with
  | nil => rfl
  | cons x l ih => rw [flat_cons, List.length_append, ih]; simp only [List.length_cons, List.length_nil]; omega
theorem flat_get : ∀ {l : List RG} {i k : Nat} {r : RG} {v : Value}, l[i]? = some r → (rgc r)[k]? = some v → (flat l)[8 * i + k]? = some v
  | [], i, k, r, v, h, _ => by simp at h
  | x :: l, 0, k, r, v, h, hk => by
    have e : x = r := by simpa using h
    subst e
    have : k < (rgc x).length := (List.getElem?_eq_some_iff.1 hk).1
    rw [flat_cons, List.getElem?_append_left (by simpa using this)]
    simpa using hk
  | x :: l, i + 1, k, r, v, h, hk => by
    have h' : l[i]? = some r := by simpa using h
    rw [flat_cons, List.getElem?_append_right (by show 8 ≤ _; omega)]
    have := flat_get h' hk
    rwa [show 8 * (i + 1) + k - (rgc x).length = 8 * i + k by show 8 * (i + 1) + k - 8 = _; omega]
theorem GRow.flatAt {cur : Array Value} {off : Nat} {l : List RG} (h : GRow cur off l) {j : Nat} {u : Value} (hj : (flat l)[j]? = some u) : cur[off + j]? = some u := by
  have hlt : j < l.length * 8 := by rw [← flat_len]; exact (List.getElem?_eq_some_iff.1 hj).1
  have hi : j / 8 < l.length := by omega
  have h1 : l[j / 8]? = some l[j / 8] := List.getElem?_eq_getElem hi
  have hk : j % 8 < (rgc l[j / 8]).length := by show j % 8 < 8; omega
  have h2 := flat_get h1 (List.getElem?_eq_getElem hk)
  rw [Nat.div_add_mod] at h2
  rw [h2] at hj
  cases hj
  have := h _ _ h1 _ _ (List.getElem?_eq_getElem hk)
  rwa [Nat.add_assoc, Nat.div_add_mod] at this
theorem GRow.of_flat {cur : Array Value} {l : List RG} {n : Nat} (h : cur.toList.take n = flat l) : GRow cur 0 l := fun i r hi k v hk => by
  have h1 := flat_get hi hk
  rw [← h, List.getElem?_take] at h1
  split at h1
  · rw [Nat.zero_add]; simpa using h1
  · cases h1
theorem GRow.left {cur : Array Value} {off : Nat} {l r : List RG} (h : GRow cur off (l ++ r)) : GRow cur off l := fun i x hi k v hk => by
  have hlt : i < l.length := (List.getElem?_eq_some_iff.1 hi).1
  exact h i x (by rw [List.getElem?_append_left hlt]; exact hi) k v hk
theorem rgc_one (r : RG) : ∀ u ∈ rgc r, u.oneCell' = true := by
  intro u hu
  simp only [rgc, List.mem_cons, List.not_mem_nil, or_false] at hu
  rcases hu with rfl | rfl | rfl | rfl | rfl | rfl | rfl | rfl <;> rfl
theorem flat_one (l : List RG) : ∀ u ∈ flat l, u.oneCell' = true := by
  intro u hu
  obtain ⟨r, _, h⟩ := List.mem_flatMap.1 hu
  exact rgc_one r u h
theorem info_gauss : (Tryz.prog.info? 30).map (fun i => (i.zero, i.size, i.bytes)) = some (some (.agg #[.bool false, .string ⟨#[]⟩, .bool false, .string ⟨#[]⟩, .bool false, .string ⟨#[]⟩, .bool false, .string ⟨#[]⟩]), 8, 96) := by kernel_rfl
abbrev OwnG (w : World) (n₀ : Nat) (v : Value) (l : List RG) : Prop := w.ownsRow n₀ 30 8 v l.length (flat l)
theorem append_gl (ty : TypeId) {w : World} {v : Value} {l : List RG} (h : GSl w v l) (hl : l.length ≤ 1099511627776) :
    ∃ v' w', (Builtin.append_ #[22, 22] ty #[.slice none 0 0, v]).run Tryz.prog w = .ok v' w' ∧ OwnG w' w.heap.size v' l ∧ RowKit.Below w.heap.size w w' := by
  obtain ⟨i0, hi, hz0, hz1, hz2⟩ := info_parts info_gauss
  obtain ⟨p, c, rfl, h2, h3, h4⟩ := h
  by_cases hn : l.length = 0
  · have : l = [] := List.length_eq_zero_iff.1 hn
    subst this
    refine ⟨.slice none 0 0, w, ?_, World.ownsRow_nil w _ _ _, RowKit.Below.refl _ _⟩
    cases p <;> simp [Builtin.append_, run_underlying Tryz.underlying22, sizeOf, typeInfo, hi, Builtin.lenOf, Builtin.firstCells, loadCells, loadCellsFrom]
  · obtain ⟨b, off, cur, T, fr, rfl, h5, h6⟩ := h4 hn
    have hnews : ∀ j u, (flat l)[j]? = some u → w.cell? ((⟨b, off, none⟩ : Addr).add j) = some u := by
      intro j u hj
      rw [Addr.add_lit]
      simp [World.cell?, h5, GRow.flatAt h6 hj]
    obtain ⟨v', w', hrun, hown, r2, _⟩ := run_append_own (P := Tryz.prog) w w.heap.size 22 ty 30 i0 _ 8 96 Tryz.underlying22 hi hz0 hz1 hz2 rfl (by decide) (.slice none 0 0) 0 [] (World.ownsRow_nil w _ _ _)
      ⟨b, off, none⟩ l.length c (flat l) (flat_len l) hnews (flat_one l) (by simp only [maxLen]; omega) (by omega) (Nat.le_refl _)
    refine ⟨v', w', hrun, ?_, ⟨r2.os, r2.tape, r2.output, r2.size, fun k hk => r2.block k hk (by simp [Value.ownBlock])⟩⟩
    simpa using hown
theorem OwnG.low {n₀ : Nat} {w w' : World} {v : Value} {l : List RG} (h : OwnG w n₀ v l) (g : RowKit.Below w.heap.size w w') : OwnG w' n₀ v l := by
  refine ⟨h.1, ?_⟩
  rcases h.2 with h1 | ⟨b, cap, cur, h1, h2, h3, h4⟩
  · exact .inl h1
  · exact .inr ⟨b, cap, cur, h1, h2, (g.block b (lt_of h3)).trans h3, h4⟩
theorem append1_gl (ty : TypeId) {n₀ : Nat} {w : World} {v : Value} {l : List RG} {r : RG} (h : OwnG w n₀ v l) (hl : l.length ≤ 1099511627776) {b : Nat} (hB : w.heap[b]? = some (.cells (rgc r).toArray 30 (0, 0))) (hn : n₀ ≤ w.heap.size) :
    ∃ v' w', (Builtin.append_ #[22, 22] ty #[v, .slice (some ⟨b, 0, none⟩) 1 1]).run Tryz.prog w = .ok v' w' ∧ OwnG w' n₀ v' (l ++ [r]) ∧ RowKit.Below n₀ w w' := by
  obtain ⟨i0, hi, hz0, hz1, hz2⟩ := info_parts info_gauss
  have hnews : ∀ j u, (rgc r)[j]? = some u → w.cell? ((⟨b, 0, none⟩ : Addr).add j) = some u := by
    intro j u hj
    rw [Addr.add_lit]
    simp [World.cell?, hB, hj]
  obtain ⟨v', w', hrun, hown, r2, _⟩ := run_append_own (P := Tryz.prog) w n₀ 22 ty 30 i0 _ 8 96 Tryz.underlying22 hi hz0 hz1 hz2 rfl (by decide) v l.length (flat l) h
      ⟨b, 0, none⟩ 1 1 (rgc r) rfl hnews (rgc_one r) (by simp only [maxLen]; omega) (by omega) hn
  refine ⟨v', w', hrun, ?_, ⟨r2.os, r2.tape, r2.output, r2.size, fun k hk => r2.block k (Nat.lt_of_lt_of_le hk hn) (fun e => ?_)⟩⟩
  · have e1 : (l ++ [r]).length = l.length + 1 := by simp
    have e2 : flat (l ++ [r]) = flat l ++ rgc r := by simp [flat]
    unfold OwnG
    rw [e1, e2]; exact hown
  · have := h.lt k e.symm; omega
theorem OwnG.open {n₀ : Nat} {w : World} {v : Value} {l : List RG} {r : RG} (h : OwnG w n₀ v (l ++ [r])) : ∃ p c cur T fr cur' T' fr',
    v = .slice p (l ++ [r]).length c ∧
    (l.length ≤ c ∧ c ≤ 9223372036854775807 ∧ Hid (l.length ≠ 0 → p = some ⟨slB p, slO p, none⟩) ∧ (l.length ≠ 0 → w.heap[slB p]? = some (.cells cur T fr)) ∧ GRow cur (slO p) l ∧ (l.length ≠ 0 → slB p < w.heap.size)) ∧
    ((l ++ [r]).length ≤ c ∧ c ≤ 9223372036854775807 ∧ Hid ((l ++ [r]).length ≠ 0 → p = some ⟨slB p, slO p, none⟩) ∧ ((l ++ [r]).length ≠ 0 → w.heap[slB p]? = some (.cells cur' T' fr')) ∧ GRow cur' (slO p) (l ++ [r]) ∧ ((l ++ [r]).length ≠ 0 → slB p < w.heap.size)) := by
  have e1 : (l ++ [r]).length = l.length + 1 := by simp
  rcases h.2 with ⟨_, h1⟩ | ⟨b, cap, cur, rfl, h2, h3, h4, h5, h6, h7⟩
  · rw [e1] at h1; exact absurd h1 (by omega)
  · have hR : GRow cur 0 (l ++ [r]) := GRow.of_flat h7
    have hc : cap ≤ 9223372036854775807 := by simp only [maxLen] at h5; exact h5
    exact ⟨_, _, cur, _, (0, 0), cur, _, (0, 0), rfl, ⟨by omega, hc, Lib.hid (fun _ => rfl), fun _ => h3, hR.left, fun _ => lt_of h3⟩, ⟨h4, hc, Lib.hid (fun _ => rfl), fun _ => h3, hR, fun _ => lt_of h3⟩⟩
section
variable {ops : Array Oper} {Q : Exit → Act → World → Prop} {o : Oper} {rest : List Oper} {a : Act} {w : World}
theorem wpT_app0 {s x : Operand} {v : Value} {l : List RG} (hg : o.guard = none) (ho : o.op = .call { callee := .builtin .append, args := #[s, x], argTypes := #[22, 22] }) (hs : a.eval s = .slice none 0 0) (hx : a.eval x = v) (t : GSl w v l) (hl : l.length ≤ 1099511627776)
    (h : ∀ v' w', OwnG w' w.heap.size v' l → RowKit.Below w.heap.size w w' → wpList Tryz.prog ops Q rest (a.put o.dst v') w') : wpList Tryz.prog ops Q (o :: rest) a w := by
  obtain ⟨v', w', hr, h1, h2⟩ := append_gl o.type t hl
  refine wpList_plain hg fun K hK => ?_
  simp only [Oper.wp, ex_append ho hs hx hr, Oper.upon]
  exact hK _ _ (h v' w' h1 h2)
theorem wpT_app1 {s x : Operand} {v : Value} {l : List RG} {r : RG} {b n₀ : Nat} (hg : o.guard = none) (ho : o.op = .call { callee := .builtin .append, args := #[s, x], argTypes := #[22, 22] }) (hs : a.eval s = v) (hx : a.eval x = .slice (some ⟨b, 0, none⟩) 1 1) (t : OwnG w n₀ v l) (hl : l.length ≤ 1099511627776)
    (hB : w.heap[b]? = some (.cells (rgc r).toArray 30 (0, 0))) (hn : n₀ ≤ w.heap.size)
    (h : ∀ v' w', OwnG w' n₀ v' (l ++ [r]) → RowKit.Below n₀ w w' → wpList Tryz.prog ops Q rest (a.put o.dst v') w') : wpList Tryz.prog ops Q (o :: rest) a w := by
  obtain ⟨v', w', hr, h1, h2⟩ := append1_gl o.type t hl hB hn
  refine wpList_plain hg fun K hK => ?_
  simp only [Oper.wp, ex_append ho hs hx hr, Oper.upon]
  exact hK _ _ (h v' w' h1 h2)
theorem wpT_lit1 {x : Operand} {r : RG} (hg : o.guard = none) (ho : o.op = .buildSlice 22 1 #[(0, x)]) (hx : a.eval x = rgV r)
    (h : ∀ b w', w'.heap[b]? = some (.cells (rgc r).toArray 30 (0, 0)) → RowKit.Below w.heap.size w w' → wpList Tryz.prog ops Q rest (a.put o.dst (.slice (some ⟨b, 0, none⟩) 1 1)) w') : wpList Tryz.prog ops Q (o :: rest) a w := by
  obtain ⟨i0, hi, hz0, hz1, hz2⟩ := info_parts info_gauss
  refine wpList_buildSlice hg 22 30 1 #[(0, x)] ho (rgc r).toArray i0 _ Tryz.underlying22 hi hz0 (by rw [hz1]; decide) (by rw [hz1]; decide) ?_ ?_
  · simp only [hz1, List.map_toArray, List.map_cons, List.map_nil, hx]
    obtain ⟨⟨⟨n1, s1⟩, ⟨n2, s2⟩⟩, ⟨⟨n3, s3⟩, ⟨n4, s4⟩⟩⟩ := r
    have e : ((Array.range (1 * 8)).map fun x => (Value.agg #[.bool false, .string ⟨#[]⟩, .bool false, .string ⟨#[]⟩, .bool false, .string ⟨#[]⟩, .bool false, .string ⟨#[]⟩]).cells[x % (Value.agg #[.bool false, .string ⟨#[]⟩, .bool false, .string ⟨#[]⟩, .bool false, .string ⟨#[]⟩, .bool false, .string ⟨#[]⟩]).cells.size]!) = #[.bool false, .string ⟨#[]⟩, .bool false, .string ⟨#[]⟩, .bool false, .string ⟨#[]⟩, .bool false, .string ⟨#[]⟩] := by
      simp [Array.range, Value.cells]
      rfl
    rw [e]
    simp [Instr.fill, Value.cells, rgV, rgc, List.zipIdx]
  · exact h _ _ (heap_alloc_new w _) ⟨rfl, rfl, rfl, by simp, fun k hk => heap_alloc_old w _ hk⟩
end
theorem GSl.mk {w : World} {p : Option Addr} {c : Nat} {cur : Array Value} {T : TypeId} {fr : Nat × Nat} {l : List RG} (hy : l.length ≤ c) (hz : c ≤ 9223372036854775807) (hP : l.length ≠ 0 → p = some ⟨slB p, slO p, none⟩) (hB : l.length ≠ 0 → w.heap[slB p]? = some (.cells cur T fr)) (hQ : GRow cur (slO p) l) : GSl w (.slice p l.length c) l :=
  ⟨p, c, rfl, hy, hz, fun h => ⟨_, _, cur, T, fr, hP h, hB h, hQ⟩⟩
theorem ex_slice_gl {ρ : Operand → Value} {o : Oper} {w : World} {x y : Operand} {p : Option Addr} {n c : Nat} {i : Int} {k : Nat} (ho : o.op = .slice 22 x none (some y) none) (hx : ρ x = .slice p n c) (hy : ρ y = .int .i64 i) (hi : i = (k : Int)) (hk : k ≤ c) :
    (execOp ρ o).run Tryz.prog w = .ok (.value (.slice p k c)) w := by
  subst hi
  obtain ⟨i0, hi, hz0, hz1, hz2⟩ := info_parts info_gauss
  have he : Tryz.prog.elem 22 = 30 := by kernel_rfl
  have ht : Tryz.prog.underlying 22 = some (.slice (Tryz.prog.elem 22)) := by rw [he]; exact Tryz.underlying22
  have e := run_slice_h (P := Tryz.prog) (w := w) 22 p n c ht .i64 (k : Int) (by omega) (by omega)
  unfold execOp
  simp only [ho, hx, hy]
  have e2 := run_sliceAt_slice (P := Tryz.prog) (w := w) 22 (.slice p n c) none (some (.int .i64 (k : Int))) none ht
  have hs : (sizeOf 30).run Tryz.prog w = .ok i0.size w := by simp [sizeOf, typeInfo, hi]
  rw [he, hs] at e
  rw [e] at e2
  simp only [Option.map_none, Option.map_some, hy, Sem.run_bind, e2]
  simp [Result.andThen, sliced]
  intro _
  rcases p with _ | ⟨b, f, _ | q⟩ <;> simp [Addr.add]
theorem info_frac4 : (Tryz.prog.info? 28).map (·.size) = some 4 := by kernel_rfl
theorem ex_load_re {ρ : Operand → Value} {o : Oper} {w : World} {x : Operand} {b off i : Nat} {l : List RG} {cur : Array Value} {T : TypeId} {fr : Nat × Nat} {q : Rat} (ho : o.op = .load 28 x) (hx : ρ x = .pointer (some ⟨b, off + 8 * i, none⟩)) (hB : w.heap[b]? = some (.cells cur T fr)) (hR : GRow cur off l) (hi : i < l.length) (hq : (l.getD i rg0).re = rf q) :
    (execOp ρ o).run Tryz.prog w = .ok (.value (.agg #[.bool (rf q).a.n, .string (rf q).a.s, .bool (rf q).b.n, .string (rf q).b.s])) w := by
  obtain ⟨h1, h2⟩ := hR.ext hi
  rw [← hq]
  refine ex_load_part 28 x ho hx hB Tryz.underlying28 rfl 4 info_frac4 (by omega) ?_
  have h3 := congrArg (fun a : Array Value => a.extract 0 4) h2
  simp only [Array.extract_extract] at h3
  rw [show off + 8 * i + 0 = off + 8 * i by omega, show min (off + 8 * i + 4) (off + 8 * i + 8) = off + 8 * i + 4 by omega] at h3
  exact h3.trans rfl
theorem last_get (l : List RG) (r : RG) : (l ++ [r]).getD l.length rg0 = r := by simp
end Go.Proofs.YtllohoibifcmdaaGreat
namespace Go.Proofs.YtllohoibifcmdaaGreat
open Go.RowKit Rgn
set_option maxHeartbeats 4000000
set_option maxRecDepth 100000
variable {S : Nat → Prop} {W : World}
set_option maxHeartbeats 4000000 in
theorem lMake {v0 : Value} (l : List RG) (t0 : GSl W v0 l) (p0 : l.length ≤ 1099511627776) :
  Calls Tryz.prog 3 #[v0] W (RetV (.bool true) W) := by
 obtain ⟨p_g0, c_g0, cur_g0, T_g0, fr_g0, rfl, y_g0, z_g0, P_g0, B_g0, Q_g0⟩ := GSl.open t0
 replace P_g0 := Lib.hid P_g0
 have X_g0 := GSl.lt B_g0
 have W_g0 := B_g0
 have bel := b0 W
 go_enter Tryz.func3, Tryz.ntmps3
 refine gs 1 (Amb Z0 W) fun _ K1 => ?_
 refine .mc rfl ?_
 refine .dk (fun u => .slice p_g0 l.length c_g0::U::u 0::us 77) K1 bel fun u1 w1 D bel => ?_
 have E1_0 := D.q 0
 replace B_g0 := fun h => D.k (B_g0 h)
 clear D
 refine wp_seq_k fun _ K2 => ?_
 rcases Bool.eq_false_or_eq_true (decide (100 < ((l.length : Nat) : Int))) with c4 | c4
 ·
  have dc4 := of_decide_eq_true c4
  rcases Bool.eq_false_or_eq_true (decide (((l.length : Nat) : Int) ≤ 4096)) with c5 | c5
  ·
   have dc5 := of_decide_eq_true c5
   refine gs 12 (Amb Z0 W) fun _ K3 => ?_
   refine .mz rfl 0 (V := .slice p_g0 l.length c_g0) rfl ?_
   refine .e rfl (V := .int .i64 ((l.length : Nat) : Int)) (fun H => by have e9 := H.g 9 0; clear H; go_simp) ?_
   refine .e rfl (V := .bool true) (fun H => x_cm (H.g 10 1) (H.c _) c4) ?_
   refine .mv rfl 2 ?_
   refine .mz rfl 0 (V := .slice p_g0 l.length c_g0) rfl ?_ (hg := gq 3 rfl)
   refine .e rfl (V := .int .i64 ((l.length : Nat) : Int)) (fun H => by have e13 := H.g 13 4; clear H; go_simp) ?_ (hg := gq 3 rfl)
   refine .e rfl (V := .bool true) (fun H => x_cm (H.g 14 5) (H.c _) c5) ?_ (hg := gq 3 rfl)
   refine .e rfl (fun H => x_pkT (H.g 12 3) (H.g 15 6)) ?_
   refine .mv rfl 7 ?_
   refine .sk rfl 8 ?_
   refine .sk rfl 8 ?_
   refine .e rfl (fun H => x_pkT (H.g 17 8) (H.c _)) ?_
   refine .dk (fun u => .slice p_g0 l.length c_g0::U::u1 0::U::U::U::U::U::U::sq u 0 12 (us 59)) K3 bel fun u2 w2 D bel => ?_
   have E2_11 := D.q 11
   replace B_g0 := fun h => D.k (B_g0 h)
   clear D
   refine wp_cond_true (by exact E2_11) ?_
   refine gs 2 (Amb Z0 W) fun _ K6 => ?_
   refine .cK rfl Tryz.func9 (fun H => ⟨_, ar0, lKnown⟩) ?_
   refine .mv rfl 0 ?_
   refine .dk (fun u => .slice p_g0 l.length c_g0::U::u 1::U::U::U::U::U::U::sq u2 0 12 (u 0::us 58)) K6 bel fun u3 w3 D bel => ?_
   have E3_1 := D.q 1
   replace B_g0 := fun h => D.k (B_g0 h)
   clear D
   exact wp_ret (rt rfl E3_1 rfl bel)
  ·
   have dc5 := of_decide_eq_false c5
   refine gs 12 (Amb Z0 W) fun _ K3 => ?_
   refine .mz rfl 0 (V := .slice p_g0 l.length c_g0) rfl ?_
   refine .e rfl (V := .int .i64 ((l.length : Nat) : Int)) (fun H => by have e9 := H.g 9 0; clear H; go_simp) ?_
   refine .e rfl (V := .bool true) (fun H => x_cm (H.g 10 1) (H.c _) c4) ?_
   refine .mv rfl 2 ?_
   refine .mz rfl 0 (V := .slice p_g0 l.length c_g0) rfl ?_ (hg := gq 3 rfl)
   refine .e rfl (V := .int .i64 ((l.length : Nat) : Int)) (fun H => by have e13 := H.g 13 4; clear H; go_simp) ?_ (hg := gq 3 rfl)
   refine .e rfl (V := .bool false) (fun H => x_cm (H.g 14 5) (H.c _) c5) ?_ (hg := gq 3 rfl)
   refine .e rfl (fun H => x_pkT (H.g 12 3) (H.g 15 6)) ?_
   refine .mv rfl 7 ?_
   refine .mz rfl 0 (V := .slice p_g0 l.length c_g0) rfl ?_ (hg := gq 8 rfl)
   refine .cK rfl Tryz.func8 (fun H => ⟨_, ar2 (H.c (.int .i64 40)) (H.g 18 9), lWide _ l (GSl.mk y_g0 z_g0 P_g0.out (fun h_ => H.blk (B_g0 h_) (Nat.le_refl _) (no_nil _)) Q_g0) (by omega)⟩) ?_ (hg := gq 8 rfl)
   refine .e rfl (fun H => x_pkF (H.g 17 8) (H.g 19 10)) ?_
   refine .dk (fun u => .slice p_g0 l.length c_g0::U::u1 0::U::U::U::U::U::U::sq u 0 12 (us 59)) K3 bel fun u2 w2 D bel => ?_
   have E2_11 := D.q 11
   replace B_g0 := fun h => D.k (B_g0 h)
   clear D
   rcases Bool.eq_false_or_eq_true (wideU (40 : Int) l) with c7 | c7
   ·
    refine wp_cond_true ((E2_11).trans (congrArg Value.bool c7)) ?_
    refine gs 2 (Amb Z0 W) fun _ K8 => ?_
    refine .cK rfl Tryz.func9 (fun H => ⟨_, ar0, lKnown⟩) ?_
    refine .mv rfl 0 ?_
    refine .dk (fun u => .slice p_g0 l.length c_g0::U::u 1::U::U::U::U::U::U::sq u2 0 12 (u 0::us 58)) K8 bel fun u3 w3 D bel => ?_
    have E3_1 := D.q 1
    replace B_g0 := fun h => D.k (B_g0 h)
    clear D
    exact wp_ret (rt rfl E3_1 rfl bel)
   ·
    refine wp_cond_false ((E2_11).trans (congrArg Value.bool c7)) ?_
    refine wp_skip ?_
    refine K2 _ _ ?_
    refine wp_seq_k fun _ K9 => ?_
    refine wp_region_list ?_
    refine wpT_val rfl (ex_move rfl) ?_
    refine wpList_as (fr (.slice p_g0 l.length c_g0::U::u1 0::U::U::U::U::U::U::sq u2 0 12 (U::.slice p_g0 l.length c_g0::us 57))) (by kernel_rfl) ?_
    refine wpT_app0 (l := l) rfl rfl rfl rfl (GSl.mk y_g0 z_g0 P_g0.out B_g0 Q_g0) (by omega) fun v11 w10 O_v11 oT => ?_
    refine wpList_as (fr (.slice p_g0 l.length c_g0::U::u1 0::U::U::U::U::U::U::sq u2 0 12 (U::.slice p_g0 l.length c_g0::v11::us 56))) (by kernel_rfl) ?_
    refine wpT_callKW (V := gV (Cx.ofInt (4242 : Int) (0 : Int))) (wanted_none rfl _) (ex_call rfl rfl Tryz.func10 (by kernel_rfl) (by kernel_rfl) (by simp only [List.map_toArray, List.map_cons, List.map_nil]; rfl)) (lWhole (m := (4242 : Int)) (n := (0 : Int))  (by omega) (by omega) (by omega) (by omega)) fun w12 ow12 => ?_
    replace O_v11 := O_v11.low ow12
    replace oT := oT.trans (ow12.mono oT.size)
    refine wpList_as (fr (.slice p_g0 l.length c_g0::U::u1 0::U::U::U::U::U::U::sq u2 0 12 (U::.slice p_g0 l.length c_g0::v11::gV (Cx.ofInt (4242 : Int) (0 : Int))::us 55))) (by kernel_rfl) ?_
    refine wpT_lit1 (r := rg (Cx.ofInt (4242 : Int) (0 : Int))) rfl rfl rfl fun b14 w13 hL_ ow13 => ?_
    replace O_v11 := O_v11.low ow13
    replace oT := oT.trans (ow13.mono oT.size)
    refine wpList_as (fr (.slice p_g0 l.length c_g0::U::u1 0::U::U::U::U::U::U::sq u2 0 12 (U::.slice p_g0 l.length c_g0::v11::gV (Cx.ofInt (4242 : Int) (0 : Int))::.slice (some ⟨b14, 0, none⟩) 1 1::us 54))) (by kernel_rfl) ?_
    refine wpT_app1 (l := l) (r := rg (Cx.ofInt (4242 : Int) (0 : Int))) rfl rfl rfl rfl O_v11 (by omega) hL_ oT.size fun v16 w15 O_v16 ow15 => ?_
    replace oT := oT.trans ow15
    replace B_g0 := fun h => (oT.block _ (lt_of (B_g0 h))).trans (B_g0 h)
    replace bel := bel.trans (oT.mono bel.size)
    obtain ⟨p_m, c_m, cur_m, T_m, fr_m, cur_k, T_k, fr_k, rfl, ⟨y_m, z_m, P_m, B_m, Q_m, X_m⟩, ⟨y_k, z_k, P_k, B_k, Q_k, X_k⟩⟩ := O_v16.open
    refine wpList_as (fr (.slice p_g0 l.length c_g0::U::u1 0::U::U::U::U::U::U::sq u2 0 12 (U::.slice p_g0 l.length c_g0::v11::gV (Cx.ofInt (4242 : Int) (0 : Int))::.slice (some ⟨b14, 0, none⟩) 1 1::.slice p_m (l ++ [rg (Cx.ofInt (4242 : Int) (0 : Int))]).length c_m::us 53))) (by kernel_rfl) ?_
    refine wpT_val rfl (ex_move rfl) ?_
    refine wpList_as (fr (.slice p_g0 l.length c_g0::U::u1 0::U::U::U::U::U::U::sq u2 0 12 (U::.slice p_g0 l.length c_g0::v11::gV (Cx.ofInt (4242 : Int) (0 : Int))::.slice (some ⟨b14, 0, none⟩) 1 1::.slice p_m (l ++ [rg (Cx.ofInt (4242 : Int) (0 : Int))]).length c_m::.slice p_g0 l.length c_g0::us 52))) (by kernel_rfl) ?_
    refine wpT_val (v := .int .i64 ((l.length : Nat) : Int)) rfl (by go_simp) ?_
    refine wpList_as (fr (.slice p_g0 l.length c_g0::U::u1 0::U::U::U::U::U::U::sq u2 0 12 (U::.slice p_g0 l.length c_g0::v11::gV (Cx.ofInt (4242 : Int) (0 : Int))::.slice (some ⟨b14, 0, none⟩) 1 1::.slice p_m (l ++ [rg (Cx.ofInt (4242 : Int) (0 : Int))]).length c_m::.slice p_g0 l.length c_g0::.int .i64 ((l.length : Nat) : Int)::us 51))) (by kernel_rfl) ?_
    refine wpT_val (v := .slice p_m l.length c_m) rfl (ex_slice_gl (k := l.length) rfl rfl rfl (by simp) y_m) ?_
    refine wpList_as (fr (.slice p_g0 l.length c_g0::U::u1 0::U::U::U::U::U::U::sq u2 0 12 (U::.slice p_g0 l.length c_g0::v11::gV (Cx.ofInt (4242 : Int) (0 : Int))::.slice (some ⟨b14, 0, none⟩) 1 1::.slice p_m (l ++ [rg (Cx.ofInt (4242 : Int) (0 : Int))]).length c_m::.slice p_g0 l.length c_g0::.int .i64 ((l.length : Nat) : Int)::.slice p_m l.length c_m::us 50))) (by kernel_rfl) ?_
    refine wpT_val rfl (ex_assign rfl) ?_
    refine wpList_as (fr (.slice p_g0 l.length c_g0::U::u1 0::.slice p_m l.length c_m::U::U::U::U::U::sq u2 0 12 (U::.slice p_g0 l.length c_g0::v11::gV (Cx.ofInt (4242 : Int) (0 : Int))::.slice (some ⟨b14, 0, none⟩) 1 1::.slice p_m (l ++ [rg (Cx.ofInt (4242 : Int) (0 : Int))]).length c_m::.slice p_g0 l.length c_g0::.int .i64 ((l.length : Nat) : Int)::.slice p_m l.length c_m::us 50))) (by kernel_rfl) ?_
    refine wpList_nil ?_
    show _
    refine K9 _ _ ?_
    refine gs 8 (Amb Z0 W) fun _ K17 => ?_
    refine .mz rfl 3 (V := .slice p_m l.length c_m) rfl ?_
    refine .cK rfl Tryz.func11 (fun H => ⟨_, ar1 (H.g 31 0), hMake l (GSl.mk y_m z_m P_m.out (fun h_ => H.blk (B_m h_) (Nat.le_refl _) (no_nil _)) Q_m) (by omega)⟩) ?_
    refine .mv rfl 1 ?_
    refine .e rfl (V := rgV ((mkRes l).1)) (fun H => x_ex (H.g 30 2)) ?_
    refine .e rfl (V := .int .i64 (mkRes l).2) (fun H => x_ex (H.g 30 2)) ?_
    refine .al rfl zG ?_
    refine .so rfl 5 (fun H => ⟨H.r 4 5, H.g 33 3⟩) ?_
    refine .mv rfl 4 ?_
    refine .dk (fun u => .slice p_g0 l.length c_g0::U::u1 0::.slice p_m l.length c_m::u 5::u 7::U::U::U::sq u2 0 12 (U::.slice p_g0 l.length c_g0::v11::gV (Cx.ofInt (4242 : Int) (0 : Int))::.slice (some ⟨b14, 0, none⟩) 1 1::.slice p_m (l ++ [rg (Cx.ofInt (4242 : Int) (0 : Int))]).length c_m::.slice p_g0 l.length c_g0::.int .i64 ((l.length : Nat) : Int)::.slice p_m l.length c_m::u 2::u 0::u 1::u 3::u 4::us 45)) K17 bel fun u5 w5 D bel => ?_
    obtain ⟨b18, E5_5, A_b18, B_b18⟩ := D.st 6
    have E5_7 := D.q 7
    replace B_g0 := fun h => D.k (B_g0 h)
    replace B_m := fun h => D.k (B_m h)
    replace B_k := fun h => D.k (B_k h)
    clear D
    refine gs 8 (Amb Z0 W) fun _ K19 => ?_
    refine .mz rfl 0 (V := .slice p_g0 l.length c_g0) rfl ?_
    refine .cK rfl Tryz.func12 (fun H => ⟨_, ar1 (H.g 36 0), rMake l (GSl.mk y_g0 z_g0 P_g0.out (fun h_ => H.blk (B_g0 h_) (Nat.le_refl _) (no_nil _)) Q_g0) (by omega)⟩) ?_
    refine .mv rfl 1 ?_
    refine .e rfl (V := rgV ((mkRes l).1)) (fun H => x_ex (H.g 35 2)) ?_
    refine .e rfl (V := .int .i64 (mkRes l).2) (fun H => x_ex (H.g 35 2)) ?_
    refine .al rfl zG ?_
    refine .so rfl 5 (fun H => ⟨H.r 6 5, H.g 38 3⟩) ?_
    refine .mv rfl 4 ?_
    refine .dk (fun u => .slice p_g0 l.length c_g0::U::u1 0::.slice p_m l.length c_m::u5 5::u5 7::u 5::u 7::U::sq u2 0 12 (U::.slice p_g0 l.length c_g0::v11::gV (Cx.ofInt (4242 : Int) (0 : Int))::.slice (some ⟨b14, 0, none⟩) 1 1::.slice p_m (l ++ [rg (Cx.ofInt (4242 : Int) (0 : Int))]).length c_m::.slice p_g0 l.length c_g0::.int .i64 ((l.length : Nat) : Int)::.slice p_m l.length c_m::u5 2::u5 0::u5 1::u5 3::u5 4::u 2::u 0::u 1::u 3::u 4::us 40)) K19 bel fun u6 w6 D bel => ?_
    obtain ⟨b20, E6_5, A_b20, B_b20⟩ := D.st 6
    have E6_7 := D.q 7
    replace B_b18 := D.k B_b18
    replace B_g0 := fun h => D.k (B_g0 h)
    replace B_m := fun h => D.k (B_m h)
    replace B_k := fun h => D.k (B_k h)
    clear D
    refine wp_seq_k fun _ K21 => ?_
    refine gs 1 (Amb Z0 W) fun _ K22 => ?_
    refine .mc rfl ?_
    refine .dk (fun u => .slice p_g0 l.length c_g0::U::u1 0::.slice p_m l.length c_m::u5 5::u5 7::u6 5::u6 7::u 0::sq u2 0 12 (U::.slice p_g0 l.length c_g0::v11::gV (Cx.ofInt (4242 : Int) (0 : Int))::.slice (some ⟨b14, 0, none⟩) 1 1::.slice p_m (l ++ [rg (Cx.ofInt (4242 : Int) (0 : Int))]).length c_m::.slice p_g0 l.length c_g0::.int .i64 ((l.length : Nat) : Int)::.slice p_m l.length c_m::u5 2::u5 0::u5 1::u5 3::u5 4::u6 2::u6 0::u6 1::u6 3::u6 4::us 40)) K22 bel fun u7 w7 D bel => ?_
    have E7_0 := D.q 0
    replace B_b18 := D.k B_b18
    replace B_b20 := D.k B_b20
    replace B_g0 := fun h => D.k (B_g0 h)
    replace B_m := fun h => D.k (B_m h)
    replace B_k := fun h => D.k (B_k h)
    clear D
    refine wp_block ?_
    refine wp_loop_ghost_k (fun n_ a_ w_ => ∃ d2 : Value, ∃ s8 : Value, ∃ d40 : Value, ∃ d41 : Value, ∃ d42 : Value, ∃ d43 : Value, ∃ d44 : Value, ∃ d45 : Value, ∃ d46 : Value, ∃ d47 : Value, ∃ d48 : Value, ∃ d49 : Value, ∃ d50 : Value, ∃ d51 : Value, ∃ d52 : Value, ∃ d53 : Value, ∃ d54 : Value, ∃ y : Int, a_ = fr (.slice p_g0 l.length c_g0::U::d2::.slice p_m l.length c_m::u5 5::u5 7::u6 5::u6 7::s8::sq u2 0 12 (U::.slice p_g0 l.length c_g0::v11::gV (Cx.ofInt (4242 : Int) (0 : Int))::.slice (some ⟨b14, 0, none⟩) 1 1::.slice p_m (l ++ [rg (Cx.ofInt (4242 : Int) (0 : Int))]).length c_m::.slice p_g0 l.length c_g0::.int .i64 ((l.length : Nat) : Int)::.slice p_m l.length c_m::u5 2::u5 0::u5 1::u5 3::u5 4::u6 2::u6 0::u6 1::u6 3::u6 4::d40::d41::d42::d43::d44::d45::d46::d47::d48::d49::d50::d51::d52::d53::d54::us 25)) ∧ n_ = (((l.length : Nat) : Int) - y).toNat ∧ 0 ≤ y ∧ y ≤ ((l.length : Nat) : Int) ∧ s8 = .int .i64 y ∧ w_.heap[b18]? = some (.cells #[.bool (mkRes l).1.re.a.n, .string (mkRes l).1.re.a.s, .bool (mkRes l).1.re.b.n, .string (mkRes l).1.re.b.s, .bool (mkRes l).1.im.a.n, .string (mkRes l).1.im.a.s, .bool (mkRes l).1.im.b.n, .string (mkRes l).1.im.b.s] 30 (0, 0)) ∧ w_.heap[b20]? = some (.cells #[.bool (mkRes l).1.re.a.n, .string (mkRes l).1.re.a.s, .bool (mkRes l).1.re.b.n, .string (mkRes l).1.re.b.s, .bool (mkRes l).1.im.a.n, .string (mkRes l).1.im.a.s, .bool (mkRes l).1.im.b.n, .string (mkRes l).1.im.b.s] 30 (0, 0)) ∧ (l.length ≠ 0 → w_.heap[slB p_g0]? = some (.cells cur_g0 T_g0 fr_g0)) ∧ ((l ++ [rg (Cx.ofInt (4242 : Int) (0 : Int))]).length ≠ 0 → w_.heap[slB p_m]? = some (.cells cur_k T_k fr_k)) ∧ (l.length ≠ 0 → w_.heap[slB p_m]? = some (.cells cur_m T_m fr_m)) ∧ RowKit.Below W.heap.size W w_) ((((l.length : Nat) : Int) - 0).toNat) ⟨_, _, _, _, _, _, _, _, _, _, _, _, _, _, _, _, _, 0, rfl, rfl, by omega, by omega, (by exact E7_0), B_b18, B_b20, B_g0, B_k, B_m, bel⟩ ?_
    clear B_b18 B_b20 B_g0 B_k B_m bel
    rintro n_ _ w23 ⟨d2, s8, d40, d41, d42, d43, d44, d45, d46, d47, d48, d49, d50, d51, d52, d53, d54, y, rfl, hn26, i0, i1, rfl, B_b18, B_b20, B_g0, B_k, B_m, bel⟩ J24 K25 hJ24 hK25
    refine wp_seq_k fun _ K27 => ?_
    refine gs 4 (Amb Z0 W) fun _ K28 => ?_
    refine .mz rfl 8 (V := .int .i64 y) rfl ?_
    refine .mz rfl 0 (V := .slice p_g0 l.length c_g0) rfl ?_
    refine .e rfl (V := .int .i64 ((l.length : Nat) : Int)) (fun H => by have e41 := H.g 41 1; clear H; go_simp) ?_
    refine .e rfl (V := .bool (decide (y < ((l.length : Nat) : Int)))) (fun H => x_cmp (H.g 40 0) (H.g 42 2)) ?_
    refine .dk (fun u => .slice p_g0 l.length c_g0::U::d2::.slice p_m l.length c_m::u5 5::u5 7::u6 5::u6 7::.int .i64 y::sq u2 0 12 (U::.slice p_g0 l.length c_g0::v11::gV (Cx.ofInt (4242 : Int) (0 : Int))::.slice (some ⟨b14, 0, none⟩) 1 1::.slice p_m (l ++ [rg (Cx.ofInt (4242 : Int) (0 : Int))]).length c_m::.slice p_g0 l.length c_g0::.int .i64 ((l.length : Nat) : Int)::.slice p_m l.length c_m::u5 2::u5 0::u5 1::u5 3::u5 4::u6 2::u6 0::u6 1::u6 3::u6 4::sq u 0 4 (d44::d45::d46::d47::d48::d49::d50::d51::d52::d53::d54::us 25))) K28 bel fun u8 w8 D bel => ?_
    have E8_0 := D.q 0
    have E8_1 := D.q 1
    have E8_2 := D.q 2
    have E8_3 := D.q 3
    replace B_b18 := D.k B_b18
    replace B_b20 := D.k B_b20
    replace B_g0 := fun h => D.k (B_g0 h)
    replace B_m := fun h => D.k (B_m h)
    replace B_k := fun h => D.k (B_k h)
    clear D
    rcases Bool.eq_false_or_eq_true (decide (y < ((l.length : Nat) : Int))) with c29 | c29
    ·
     refine wp_cond_true ((E8_3).trans (congrArg Value.bool c29)) ?_
     have dc29 := of_decide_eq_true c29
     refine wp_skip ?_
     refine K27 _ _ ?_
     refine wp_seq_k fun _ K30 => ?_
     refine wp_block ?_
     refine gd 9 (Amb Z0 W) fun _ K31 => ?_
     refine .mz rfl 3 (V := .slice p_m l.length c_m) rfl ?_
     refine .mz rfl 8 (V := .int .i64 y) rfl ?_
     refine Go2.eq (i := 2) rfl (G0 rfl) (V := .pointer (some ⟨slB p_m, slO p_m + 8 * y.toNat, none⟩)) (by intro u μ ρ H; have e46 := H.g 46 0; have e47 := H.g 47 1; exact ex_index_gl rfl e46 e47 (by first | omega | (simp; done) | (simp; omega)) (by first | omega | (simp; done) | (simp; omega)) P_m.out) ?_
     refine Go2.eq (i := 3) rfl (G0 rfl) (V := rgV (l.getD y.toNat rg0)) (by intro u μ ρ H; have e48 := H.g 48 2; exact ex_load_gl rfl e48 (H.blk (B_m (by first | omega | (simp; done) | (simp; omega))) (Nat.le_refl _) (no_nil _)) Q_m (by first | omega | (simp; done) | (simp; omega))) ?_
     refine .mz rfl 0 (V := .slice p_g0 l.length c_g0) rfl ?_
     refine .mz rfl 8 (V := .int .i64 y) rfl ?_
     refine Go2.eq (i := 6) rfl (G0 rfl) (V := .pointer (some ⟨slB p_g0, slO p_g0 + 8 * y.toNat, none⟩)) (by intro u μ ρ H; have e50 := H.g 50 4; have e51 := H.g 51 5; exact ex_index_gl rfl e50 e51 (by first | omega | (simp; done) | (simp; omega)) (by first | omega | (simp; done) | (simp; omega)) P_g0.out) ?_
     refine Go2.eq (i := 7) rfl (G0 rfl) (V := rgV (l.getD y.toNat rg0)) (by intro u μ ρ H; have e52 := H.g 52 6; exact ex_load_gl rfl e52 (H.blk (B_g0 (by first | omega | (simp; done) | (simp; omega))) (Nat.le_refl _) (no_nil _)) Q_g0 (by first | omega | (simp; done) | (simp; omega))) ?_
     refine .e rfl (V := .bool false) (fun H => ex_neq_gauss (r := l.getD y.toNat rg0) (q := l.getD y.toNat rg0) _ _ rfl (H.g 49 3) (H.g 53 7) (rfl.trans (decide_eq_true rfl))) ?_
     refine .dk (fun u => .slice p_g0 l.length c_g0::U::d2::.slice p_m l.length c_m::u5 5::u5 7::u6 5::u6 7::.int .i64 y::sq u2 0 12 (U::.slice p_g0 l.length c_g0::v11::gV (Cx.ofInt (4242 : Int) (0 : Int))::.slice (some ⟨b14, 0, none⟩) 1 1::.slice p_m (l ++ [rg (Cx.ofInt (4242 : Int) (0 : Int))]).length c_m::.slice p_g0 l.length c_g0::.int .i64 ((l.length : Nat) : Int)::.slice p_m l.length c_m::u5 2::u5 0::u5 1::u5 3::u5 4::u6 2::u6 0::u6 1::u6 3::u6 4::sq u8 0 4 (d44::d45::sq u 0 9 (us 25)))) K31 bel fun u9 w9 D bel => ?_
     have E9_0 := D.q 0
     have E9_1 := D.q 1
     have E9_2 := D.q 2
     have E9_3 := D.q 3
     have E9_4 := D.q 4
     have E9_5 := D.q 5
     have E9_6 := D.q 6
     have E9_7 := D.q 7
     have E9_8 := D.q 8
     replace B_b18 := D.k B_b18
     replace B_b20 := D.k B_b20
     replace B_g0 := fun h => D.k (B_g0 h)
     replace B_m := fun h => D.k (B_m h)
     replace B_k := fun h => D.k (B_k h)
     clear D
     refine wp_cond_false (by exact E9_8) ?_
     refine wp_skip ?_
     refine inBlock_normal ?_
     refine K30 _ _ ?_
     refine wp_region_list ?_
     refine wpT_val rfl (ex_move rfl) ?_
     refine wpList_as (fr (.slice p_g0 l.length c_g0::U::d2::.slice p_m l.length c_m::u5 5::u5 7::u6 5::u6 7::.int .i64 y::sq u2 0 12 (U::.slice p_g0 l.length c_g0::v11::gV (Cx.ofInt (4242 : Int) (0 : Int))::.slice (some ⟨b14, 0, none⟩) 1 1::.slice p_m (l ++ [rg (Cx.ofInt (4242 : Int) (0 : Int))]).length c_m::.slice p_g0 l.length c_g0::.int .i64 ((l.length : Nat) : Int)::.slice p_m l.length c_m::u5 2::u5 0::u5 1::u5 3::u5 4::u6 2::u6 0::u6 1::u6 3::u6 4::sq u8 0 4 (.int .i64 y::d45::sq u9 0 9 (us 25))))) (by kernel_rfl) ?_
     refine wpT_val (v := .int .i64 (y + 1)) rfl (by have aw_ : IntKind.wrap .i64 (y + 1) = y + 1 := IntWalk.i64_in _ (by omega); go_simp) ?_
     refine wpList_as (fr (.slice p_g0 l.length c_g0::U::d2::.slice p_m l.length c_m::u5 5::u5 7::u6 5::u6 7::.int .i64 y::sq u2 0 12 (U::.slice p_g0 l.length c_g0::v11::gV (Cx.ofInt (4242 : Int) (0 : Int))::.slice (some ⟨b14, 0, none⟩) 1 1::.slice p_m (l ++ [rg (Cx.ofInt (4242 : Int) (0 : Int))]).length c_m::.slice p_g0 l.length c_g0::.int .i64 ((l.length : Nat) : Int)::.slice p_m l.length c_m::u5 2::u5 0::u5 1::u5 3::u5 4::u6 2::u6 0::u6 1::u6 3::u6 4::sq u8 0 4 (.int .i64 y::.int .i64 (y + 1)::sq u9 0 9 (us 25))))) (by kernel_rfl) ?_
     refine wpT_val rfl (ex_assign rfl) ?_
     refine wpList_as (fr (.slice p_g0 l.length c_g0::U::d2::.slice p_m l.length c_m::u5 5::u5 7::u6 5::u6 7::.int .i64 (y + 1)::sq u2 0 12 (U::.slice p_g0 l.length c_g0::v11::gV (Cx.ofInt (4242 : Int) (0 : Int))::.slice (some ⟨b14, 0, none⟩) 1 1::.slice p_m (l ++ [rg (Cx.ofInt (4242 : Int) (0 : Int))]).length c_m::.slice p_g0 l.length c_g0::.int .i64 ((l.length : Nat) : Int)::.slice p_m l.length c_m::u5 2::u5 0::u5 1::u5 3::u5 4::u6 2::u6 0::u6 1::u6 3::u6 4::sq u8 0 4 (.int .i64 y::.int .i64 (y + 1)::sq u9 0 9 (us 25))))) (by kernel_rfl) ?_
     refine wpList_nil ?_
     show _
     refine hK25 _ _ (Handed.intro ((((l.length : Nat) : Int) - (y + 1)).toNat) (by rw [hn26]; omega) (hJ24 _ _ _ ⟨_, _, _, _, _, _, _, _, _, _, _, _, _, _, _, _, _, y + 1, rfl, rfl, by omega, by omega, rfl, B_b18, B_b20, B_g0, B_k, B_m, bel⟩))
    ·
     refine wp_cond_false ((E8_3).trans (congrArg Value.bool c29)) ?_
     have dc29 := of_decide_eq_false c29
     refine wp_exit ?_
     refine then_exit ?_
     refine then_exit ?_
     refine inBlock_here ?_
     refine K21 _ _ ?_
     refine gd 26 (Amb Z0 W) fun _ K32 => ?_
     refine .lr rfl 4 E5_5 B_b18 ?_
     refine .lr rfl 6 E6_5 B_b20 ?_
     refine .e rfl (V := .bool true) (fun H => ex_eql_gauss (r := (mkRes l).1) (q := (mkRes l).1) _ _ rfl (H.g 55 0) (H.g 56 1) (rfl.trans (decide_eq_true rfl))) ?_
     refine .mv rfl 2 ?_
     refine .mz rfl 5 E5_7 ?_ (hg := gq 3 rfl)
     refine .mz rfl 7 E6_7 ?_ (hg := gq 3 rfl)
     refine .e rfl (V := .bool true) (fun H => x_cm (H.g 59 4) (H.g 60 5) (beq_self_eq_true ((mkRes l).2))) ?_ (hg := gq 3 rfl)
     refine .e rfl (fun H => x_pkT (H.g 58 3) (H.g 61 6)) ?_
     refine .mv rfl 7 ?_
     refine .mz rfl 3 (V := .slice p_m l.length c_m) rfl ?_ (hg := gq 8 rfl)
     refine .mz rfl 0 (V := .slice p_g0 l.length c_g0) rfl ?_ (hg := gq 8 rfl)
     refine .e rfl (V := .int .i64 ((l.length : Nat) : Int)) (fun H => by have e65 := H.g 65 10; clear H; go_simp) ?_ (hg := gq 8 rfl)
     refine .e rfl (V := .int .i64 (((l.length : Nat) : Int) + 1)) (fun H => x_ari (H.g 66 11) (H.c _) (IntWalk.i64_in _ (by omega))) ?_ (hg := gq 8 rfl)
     refine Go2.eq (i := 13) rfl (gq 8 rfl) (V := .slice p_m (l ++ [rg (Cx.ofInt (4242 : Int) (0 : Int))]).length c_m) (by intro u μ ρ H; have e64 := H.g 64 9; have e67 := H.g 67 12; exact ex_slice_gl (k := (l ++ [rg (Cx.ofInt (4242 : Int) (0 : Int))]).length) rfl e64 e67 (by simp) y_k) ?_
     refine .mz rfl 0 (V := .slice p_g0 l.length c_g0) rfl ?_ (hg := gq 8 rfl)
     refine .e rfl (V := .int .i64 ((l.length : Nat) : Int)) (fun H => by have e69 := H.g 69 14; clear H; go_simp) ?_ (hg := gq 8 rfl)
     refine Go2.eq (i := 16) rfl (gq 8 rfl) (V := .pointer (some ⟨slB p_m, slO p_m + 8 * ((l.length : Nat) : Int).toNat, none⟩)) (by intro u μ ρ H; have e68 := H.g 68 13; have e70 := H.g 70 15; exact ex_index_gl rfl e68 e70 (by first | omega | (simp; done) | (simp; omega)) (by first | omega | (simp; done) | (simp; omega)) P_k.out) ?_
     refine .fj rfl 16 (slO p_m + 8 * ((l.length : Nat) : Int).toNat) ?_ (hg := gq 8 rfl)
     refine Go2.eq (i := 18) rfl (gq 8 rfl) (V := fV ((Cx.ofInt (4242 : Int) (0 : Int)).re)) (by intro u μ ρ H; have e72 := H.g 72 17; exact ex_load_re (q := (Cx.ofInt (4242 : Int) (0 : Int)).re) rfl e72 (H.blk (B_k (by first | omega | (simp; done) | (simp; omega))) (Nat.le_refl _) (no_nil _)) Q_k (by first | omega | (simp; done) | (simp; omega)) (by rw [Int.toNat_natCast, last_get])) ?_
     refine .cK rfl Tryz.func13 (fun H => ⟨_, ar1 (H.c (.int .i64 4242)), fInt _ (by omega) (by omega)⟩) ?_ (hg := gq 8 rfl)
     refine .e rfl (V := .bool true) (fun H => ex_eql_frac (r := rf ((Cx.ofInt (4242 : Int) (0 : Int)).re)) (q := rf ((4242 : Int) : Rat)) _ _ rfl (H.g 73 18) (H.g 74 19) ((rf_dec ((Cx.ofInt (4242 : Int) (0 : Int)).re) ((4242 : Int) : Rat)).trans (decide_eq_true rfl))) ?_ (hg := gq 8 rfl)
     refine .e rfl (fun H => x_pkT (H.g 63 8) (H.g 75 20)) ?_
     refine .mv rfl 21 ?_
     refine .cK rfl Tryz.func9 (fun H => ⟨_, ar0, lKnown⟩) ?_ (hg := gq 22 rfl)
     refine .e rfl (fun H => x_pkT (H.g 77 22) (H.g 78 23)) ?_
     refine .mv rfl 24 ?_
     refine .dk (fun u => .slice p_g0 l.length c_g0::U::u 25::.slice p_m l.length c_m::u5 5::u5 7::u6 5::u6 7::.int .i64 y::sq u2 0 12 (U::.slice p_g0 l.length c_g0::v11::gV (Cx.ofInt (4242 : Int) (0 : Int))::.slice (some ⟨b14, 0, none⟩) 1 1::.slice p_m (l ++ [rg (Cx.ofInt (4242 : Int) (0 : Int))]).length c_m::.slice p_g0 l.length c_g0::.int .i64 ((l.length : Nat) : Int)::.slice p_m l.length c_m::u5 2::u5 0::u5 1::u5 3::u5 4::u6 2::u6 0::u6 1::u6 3::u6 4::sq u8 0 4 (d44::d45::d46::d47::d48::d49::d50::d51::d52::d53::d54::sq u 0 25 []))) K32 bel fun u11 w11 D bel => ?_
     have E11_25 := D.q 25
     replace B_g0 := fun h => D.k (B_g0 h)
     replace B_m := fun h => D.k (B_m h)
     replace B_k := fun h => D.k (B_k h)
     clear D
     exact wp_ret (rt rfl E11_25 rfl bel)
 ·
  have dc4 := of_decide_eq_false c4
  refine gs 12 (Amb Z0 W) fun _ K3 => ?_
  refine .mz rfl 0 (V := .slice p_g0 l.length c_g0) rfl ?_
  refine .e rfl (V := .int .i64 ((l.length : Nat) : Int)) (fun H => by have e9 := H.g 9 0; clear H; go_simp) ?_
  refine .e rfl (V := .bool false) (fun H => x_cm (H.g 10 1) (H.c _) c4) ?_
  refine .mv rfl 2 ?_
  refine .sk rfl 3 ?_
  refine .sk rfl 3 ?_
  refine .sk rfl 3 ?_
  refine .e rfl (fun H => x_pkF (H.g 12 3) (H.c _)) ?_
  refine .mv rfl 7 ?_
  refine .mz rfl 0 (V := .slice p_g0 l.length c_g0) rfl ?_ (hg := gq 8 rfl)
  refine .cK rfl Tryz.func8 (fun H => ⟨_, ar2 (H.c (.int .i64 40)) (H.g 18 9), lWide _ l (GSl.mk y_g0 z_g0 P_g0.out (fun h_ => H.blk (B_g0 h_) (Nat.le_refl _) (no_nil _)) Q_g0) (by omega)⟩) ?_ (hg := gq 8 rfl)
  refine .e rfl (fun H => x_pkF (H.g 17 8) (H.g 19 10)) ?_
  refine .dk (fun u => .slice p_g0 l.length c_g0::U::u1 0::U::U::U::U::U::U::sq u 0 12 (us 59)) K3 bel fun u2 w2 D bel => ?_
  have E2_11 := D.q 11
  replace B_g0 := fun h => D.k (B_g0 h)
  clear D
  rcases Bool.eq_false_or_eq_true (wideU (40 : Int) l) with c33 | c33
  ·
   refine wp_cond_true ((E2_11).trans (congrArg Value.bool c33)) ?_
   refine gs 2 (Amb Z0 W) fun _ K34 => ?_
   refine .cK rfl Tryz.func9 (fun H => ⟨_, ar0, lKnown⟩) ?_
   refine .mv rfl 0 ?_
   refine .dk (fun u => .slice p_g0 l.length c_g0::U::u 1::U::U::U::U::U::U::sq u2 0 12 (u 0::us 58)) K34 bel fun u3 w3 D bel => ?_
   have E3_1 := D.q 1
   replace B_g0 := fun h => D.k (B_g0 h)
   clear D
   exact wp_ret (rt rfl E3_1 rfl bel)
  ·
   refine wp_cond_false ((E2_11).trans (congrArg Value.bool c33)) ?_
   refine wp_skip ?_
   refine K2 _ _ ?_
   refine wp_seq_k fun _ K35 => ?_
   refine wp_region_list ?_
   refine wpT_val rfl (ex_move rfl) ?_
   refine wpList_as (fr (.slice p_g0 l.length c_g0::U::u1 0::U::U::U::U::U::U::sq u2 0 12 (U::.slice p_g0 l.length c_g0::us 57))) (by kernel_rfl) ?_
   refine wpT_app0 (l := l) rfl rfl rfl rfl (GSl.mk y_g0 z_g0 P_g0.out B_g0 Q_g0) (by omega) fun v37 w36 O_v37 oT => ?_
   refine wpList_as (fr (.slice p_g0 l.length c_g0::U::u1 0::U::U::U::U::U::U::sq u2 0 12 (U::.slice p_g0 l.length c_g0::v37::us 56))) (by kernel_rfl) ?_
   refine wpT_callKW (V := gV (Cx.ofInt (4242 : Int) (0 : Int))) (wanted_none rfl _) (ex_call rfl rfl Tryz.func10 (by kernel_rfl) (by kernel_rfl) (by simp only [List.map_toArray, List.map_cons, List.map_nil]; rfl)) (lWhole (m := (4242 : Int)) (n := (0 : Int))  (by omega) (by omega) (by omega) (by omega)) fun w38 ow38 => ?_
   replace O_v37 := O_v37.low ow38
   replace oT := oT.trans (ow38.mono oT.size)
   refine wpList_as (fr (.slice p_g0 l.length c_g0::U::u1 0::U::U::U::U::U::U::sq u2 0 12 (U::.slice p_g0 l.length c_g0::v37::gV (Cx.ofInt (4242 : Int) (0 : Int))::us 55))) (by kernel_rfl) ?_
   refine wpT_lit1 (r := rg (Cx.ofInt (4242 : Int) (0 : Int))) rfl rfl rfl fun b40 w39 hL_ ow39 => ?_
   replace O_v37 := O_v37.low ow39
   replace oT := oT.trans (ow39.mono oT.size)
   refine wpList_as (fr (.slice p_g0 l.length c_g0::U::u1 0::U::U::U::U::U::U::sq u2 0 12 (U::.slice p_g0 l.length c_g0::v37::gV (Cx.ofInt (4242 : Int) (0 : Int))::.slice (some ⟨b40, 0, none⟩) 1 1::us 54))) (by kernel_rfl) ?_
   refine wpT_app1 (l := l) (r := rg (Cx.ofInt (4242 : Int) (0 : Int))) rfl rfl rfl rfl O_v37 (by omega) hL_ oT.size fun v42 w41 O_v42 ow41 => ?_
   replace oT := oT.trans ow41
   replace B_g0 := fun h => (oT.block _ (lt_of (B_g0 h))).trans (B_g0 h)
   replace bel := bel.trans (oT.mono bel.size)
   obtain ⟨p_m, c_m, cur_m, T_m, fr_m, cur_k, T_k, fr_k, rfl, ⟨y_m, z_m, P_m, B_m, Q_m, X_m⟩, ⟨y_k, z_k, P_k, B_k, Q_k, X_k⟩⟩ := O_v42.open
   refine wpList_as (fr (.slice p_g0 l.length c_g0::U::u1 0::U::U::U::U::U::U::sq u2 0 12 (U::.slice p_g0 l.length c_g0::v37::gV (Cx.ofInt (4242 : Int) (0 : Int))::.slice (some ⟨b40, 0, none⟩) 1 1::.slice p_m (l ++ [rg (Cx.ofInt (4242 : Int) (0 : Int))]).length c_m::us 53))) (by kernel_rfl) ?_
   refine wpT_val rfl (ex_move rfl) ?_
   refine wpList_as (fr (.slice p_g0 l.length c_g0::U::u1 0::U::U::U::U::U::U::sq u2 0 12 (U::.slice p_g0 l.length c_g0::v37::gV (Cx.ofInt (4242 : Int) (0 : Int))::.slice (some ⟨b40, 0, none⟩) 1 1::.slice p_m (l ++ [rg (Cx.ofInt (4242 : Int) (0 : Int))]).length c_m::.slice p_g0 l.length c_g0::us 52))) (by kernel_rfl) ?_
   refine wpT_val (v := .int .i64 ((l.length : Nat) : Int)) rfl (by go_simp) ?_
   refine wpList_as (fr (.slice p_g0 l.length c_g0::U::u1 0::U::U::U::U::U::U::sq u2 0 12 (U::.slice p_g0 l.length c_g0::v37::gV (Cx.ofInt (4242 : Int) (0 : Int))::.slice (some ⟨b40, 0, none⟩) 1 1::.slice p_m (l ++ [rg (Cx.ofInt (4242 : Int) (0 : Int))]).length c_m::.slice p_g0 l.length c_g0::.int .i64 ((l.length : Nat) : Int)::us 51))) (by kernel_rfl) ?_
   refine wpT_val (v := .slice p_m l.length c_m) rfl (ex_slice_gl (k := l.length) rfl rfl rfl (by simp) y_m) ?_
   refine wpList_as (fr (.slice p_g0 l.length c_g0::U::u1 0::U::U::U::U::U::U::sq u2 0 12 (U::.slice p_g0 l.length c_g0::v37::gV (Cx.ofInt (4242 : Int) (0 : Int))::.slice (some ⟨b40, 0, none⟩) 1 1::.slice p_m (l ++ [rg (Cx.ofInt (4242 : Int) (0 : Int))]).length c_m::.slice p_g0 l.length c_g0::.int .i64 ((l.length : Nat) : Int)::.slice p_m l.length c_m::us 50))) (by kernel_rfl) ?_
   refine wpT_val rfl (ex_assign rfl) ?_
   refine wpList_as (fr (.slice p_g0 l.length c_g0::U::u1 0::.slice p_m l.length c_m::U::U::U::U::U::sq u2 0 12 (U::.slice p_g0 l.length c_g0::v37::gV (Cx.ofInt (4242 : Int) (0 : Int))::.slice (some ⟨b40, 0, none⟩) 1 1::.slice p_m (l ++ [rg (Cx.ofInt (4242 : Int) (0 : Int))]).length c_m::.slice p_g0 l.length c_g0::.int .i64 ((l.length : Nat) : Int)::.slice p_m l.length c_m::us 50))) (by kernel_rfl) ?_
   refine wpList_nil ?_
   show _
   refine K35 _ _ ?_
   refine gs 8 (Amb Z0 W) fun _ K43 => ?_
   refine .mz rfl 3 (V := .slice p_m l.length c_m) rfl ?_
   refine .cK rfl Tryz.func11 (fun H => ⟨_, ar1 (H.g 31 0), hMake l (GSl.mk y_m z_m P_m.out (fun h_ => H.blk (B_m h_) (Nat.le_refl _) (no_nil _)) Q_m) (by omega)⟩) ?_
   refine .mv rfl 1 ?_
   refine .e rfl (V := rgV ((mkRes l).1)) (fun H => x_ex (H.g 30 2)) ?_
   refine .e rfl (V := .int .i64 (mkRes l).2) (fun H => x_ex (H.g 30 2)) ?_
   refine .al rfl zG ?_
   refine .so rfl 5 (fun H => ⟨H.r 4 5, H.g 33 3⟩) ?_
   refine .mv rfl 4 ?_
   refine .dk (fun u => .slice p_g0 l.length c_g0::U::u1 0::.slice p_m l.length c_m::u 5::u 7::U::U::U::sq u2 0 12 (U::.slice p_g0 l.length c_g0::v37::gV (Cx.ofInt (4242 : Int) (0 : Int))::.slice (some ⟨b40, 0, none⟩) 1 1::.slice p_m (l ++ [rg (Cx.ofInt (4242 : Int) (0 : Int))]).length c_m::.slice p_g0 l.length c_g0::.int .i64 ((l.length : Nat) : Int)::.slice p_m l.length c_m::u 2::u 0::u 1::u 3::u 4::us 45)) K43 bel fun u5 w5 D bel => ?_
   obtain ⟨b44, E5_5, A_b44, B_b44⟩ := D.st 6
   have E5_7 := D.q 7
   replace B_g0 := fun h => D.k (B_g0 h)
   replace B_m := fun h => D.k (B_m h)
   replace B_k := fun h => D.k (B_k h)
   clear D
   refine gs 8 (Amb Z0 W) fun _ K45 => ?_
   refine .mz rfl 0 (V := .slice p_g0 l.length c_g0) rfl ?_
   refine .cK rfl Tryz.func12 (fun H => ⟨_, ar1 (H.g 36 0), rMake l (GSl.mk y_g0 z_g0 P_g0.out (fun h_ => H.blk (B_g0 h_) (Nat.le_refl _) (no_nil _)) Q_g0) (by omega)⟩) ?_
   refine .mv rfl 1 ?_
   refine .e rfl (V := rgV ((mkRes l).1)) (fun H => x_ex (H.g 35 2)) ?_
   refine .e rfl (V := .int .i64 (mkRes l).2) (fun H => x_ex (H.g 35 2)) ?_
   refine .al rfl zG ?_
   refine .so rfl 5 (fun H => ⟨H.r 6 5, H.g 38 3⟩) ?_
   refine .mv rfl 4 ?_
   refine .dk (fun u => .slice p_g0 l.length c_g0::U::u1 0::.slice p_m l.length c_m::u5 5::u5 7::u 5::u 7::U::sq u2 0 12 (U::.slice p_g0 l.length c_g0::v37::gV (Cx.ofInt (4242 : Int) (0 : Int))::.slice (some ⟨b40, 0, none⟩) 1 1::.slice p_m (l ++ [rg (Cx.ofInt (4242 : Int) (0 : Int))]).length c_m::.slice p_g0 l.length c_g0::.int .i64 ((l.length : Nat) : Int)::.slice p_m l.length c_m::u5 2::u5 0::u5 1::u5 3::u5 4::u 2::u 0::u 1::u 3::u 4::us 40)) K45 bel fun u6 w6 D bel => ?_
   obtain ⟨b46, E6_5, A_b46, B_b46⟩ := D.st 6
   have E6_7 := D.q 7
   replace B_b44 := D.k B_b44
   replace B_g0 := fun h => D.k (B_g0 h)
   replace B_m := fun h => D.k (B_m h)
   replace B_k := fun h => D.k (B_k h)
   clear D
   refine wp_seq_k fun _ K47 => ?_
   refine gs 1 (Amb Z0 W) fun _ K48 => ?_
   refine .mc rfl ?_
   refine .dk (fun u => .slice p_g0 l.length c_g0::U::u1 0::.slice p_m l.length c_m::u5 5::u5 7::u6 5::u6 7::u 0::sq u2 0 12 (U::.slice p_g0 l.length c_g0::v37::gV (Cx.ofInt (4242 : Int) (0 : Int))::.slice (some ⟨b40, 0, none⟩) 1 1::.slice p_m (l ++ [rg (Cx.ofInt (4242 : Int) (0 : Int))]).length c_m::.slice p_g0 l.length c_g0::.int .i64 ((l.length : Nat) : Int)::.slice p_m l.length c_m::u5 2::u5 0::u5 1::u5 3::u5 4::u6 2::u6 0::u6 1::u6 3::u6 4::us 40)) K48 bel fun u7 w7 D bel => ?_
   have E7_0 := D.q 0
   replace B_b44 := D.k B_b44
   replace B_b46 := D.k B_b46
   replace B_g0 := fun h => D.k (B_g0 h)
   replace B_m := fun h => D.k (B_m h)
   replace B_k := fun h => D.k (B_k h)
   clear D
   refine wp_block ?_
   refine wp_loop_ghost_k (fun n_ a_ w_ => ∃ d2 : Value, ∃ s8 : Value, ∃ d40 : Value, ∃ d41 : Value, ∃ d42 : Value, ∃ d43 : Value, ∃ d44 : Value, ∃ d45 : Value, ∃ d46 : Value, ∃ d47 : Value, ∃ d48 : Value, ∃ d49 : Value, ∃ d50 : Value, ∃ d51 : Value, ∃ d52 : Value, ∃ d53 : Value, ∃ d54 : Value, ∃ y : Int, a_ = fr (.slice p_g0 l.length c_g0::U::d2::.slice p_m l.length c_m::u5 5::u5 7::u6 5::u6 7::s8::sq u2 0 12 (U::.slice p_g0 l.length c_g0::v37::gV (Cx.ofInt (4242 : Int) (0 : Int))::.slice (some ⟨b40, 0, none⟩) 1 1::.slice p_m (l ++ [rg (Cx.ofInt (4242 : Int) (0 : Int))]).length c_m::.slice p_g0 l.length c_g0::.int .i64 ((l.length : Nat) : Int)::.slice p_m l.length c_m::u5 2::u5 0::u5 1::u5 3::u5 4::u6 2::u6 0::u6 1::u6 3::u6 4::d40::d41::d42::d43::d44::d45::d46::d47::d48::d49::d50::d51::d52::d53::d54::us 25)) ∧ n_ = (((l.length : Nat) : Int) - y).toNat ∧ 0 ≤ y ∧ y ≤ ((l.length : Nat) : Int) ∧ s8 = .int .i64 y ∧ w_.heap[b44]? = some (.cells #[.bool (mkRes l).1.re.a.n, .string (mkRes l).1.re.a.s, .bool (mkRes l).1.re.b.n, .string (mkRes l).1.re.b.s, .bool (mkRes l).1.im.a.n, .string (mkRes l).1.im.a.s, .bool (mkRes l).1.im.b.n, .string (mkRes l).1.im.b.s] 30 (0, 0)) ∧ w_.heap[b46]? = some (.cells #[.bool (mkRes l).1.re.a.n, .string (mkRes l).1.re.a.s, .bool (mkRes l).1.re.b.n, .string (mkRes l).1.re.b.s, .bool (mkRes l).1.im.a.n, .string (mkRes l).1.im.a.s, .bool (mkRes l).1.im.b.n, .string (mkRes l).1.im.b.s] 30 (0, 0)) ∧ (l.length ≠ 0 → w_.heap[slB p_g0]? = some (.cells cur_g0 T_g0 fr_g0)) ∧ ((l ++ [rg (Cx.ofInt (4242 : Int) (0 : Int))]).length ≠ 0 → w_.heap[slB p_m]? = some (.cells cur_k T_k fr_k)) ∧ (l.length ≠ 0 → w_.heap[slB p_m]? = some (.cells cur_m T_m fr_m)) ∧ RowKit.Below W.heap.size W w_) ((((l.length : Nat) : Int) - 0).toNat) ⟨_, _, _, _, _, _, _, _, _, _, _, _, _, _, _, _, _, 0, rfl, rfl, by omega, by omega, (by exact E7_0), B_b44, B_b46, B_g0, B_k, B_m, bel⟩ ?_
   clear B_b44 B_b46 B_g0 B_k B_m bel
   rintro n_ _ w49 ⟨d2, s8, d40, d41, d42, d43, d44, d45, d46, d47, d48, d49, d50, d51, d52, d53, d54, y, rfl, hn52, i0, i1, rfl, B_b44, B_b46, B_g0, B_k, B_m, bel⟩ J50 K51 hJ50 hK51
   refine wp_seq_k fun _ K53 => ?_
   refine gs 4 (Amb Z0 W) fun _ K54 => ?_
   refine .mz rfl 8 (V := .int .i64 y) rfl ?_
   refine .mz rfl 0 (V := .slice p_g0 l.length c_g0) rfl ?_
   refine .e rfl (V := .int .i64 ((l.length : Nat) : Int)) (fun H => by have e41 := H.g 41 1; clear H; go_simp) ?_
   refine .e rfl (V := .bool (decide (y < ((l.length : Nat) : Int)))) (fun H => x_cmp (H.g 40 0) (H.g 42 2)) ?_
   refine .dk (fun u => .slice p_g0 l.length c_g0::U::d2::.slice p_m l.length c_m::u5 5::u5 7::u6 5::u6 7::.int .i64 y::sq u2 0 12 (U::.slice p_g0 l.length c_g0::v37::gV (Cx.ofInt (4242 : Int) (0 : Int))::.slice (some ⟨b40, 0, none⟩) 1 1::.slice p_m (l ++ [rg (Cx.ofInt (4242 : Int) (0 : Int))]).length c_m::.slice p_g0 l.length c_g0::.int .i64 ((l.length : Nat) : Int)::.slice p_m l.length c_m::u5 2::u5 0::u5 1::u5 3::u5 4::u6 2::u6 0::u6 1::u6 3::u6 4::sq u 0 4 (d44::d45::d46::d47::d48::d49::d50::d51::d52::d53::d54::us 25))) K54 bel fun u8 w8 D bel => ?_
   have E8_0 := D.q 0
   have E8_1 := D.q 1
   have E8_2 := D.q 2
   have E8_3 := D.q 3
   replace B_b44 := D.k B_b44
   replace B_b46 := D.k B_b46
   replace B_g0 := fun h => D.k (B_g0 h)
   replace B_m := fun h => D.k (B_m h)
   replace B_k := fun h => D.k (B_k h)
   clear D
   rcases Bool.eq_false_or_eq_true (decide (y < ((l.length : Nat) : Int))) with c55 | c55
   ·
    refine wp_cond_true ((E8_3).trans (congrArg Value.bool c55)) ?_
    have dc55 := of_decide_eq_true c55
    refine wp_skip ?_
    refine K53 _ _ ?_
    refine wp_seq_k fun _ K56 => ?_
    refine wp_block ?_
    refine gd 9 (Amb Z0 W) fun _ K57 => ?_
    refine .mz rfl 3 (V := .slice p_m l.length c_m) rfl ?_
    refine .mz rfl 8 (V := .int .i64 y) rfl ?_
    refine Go2.eq (i := 2) rfl (G0 rfl) (V := .pointer (some ⟨slB p_m, slO p_m + 8 * y.toNat, none⟩)) (by intro u μ ρ H; have e46 := H.g 46 0; have e47 := H.g 47 1; exact ex_index_gl rfl e46 e47 (by first | omega | (simp; done) | (simp; omega)) (by first | omega | (simp; done) | (simp; omega)) P_m.out) ?_
    refine Go2.eq (i := 3) rfl (G0 rfl) (V := rgV (l.getD y.toNat rg0)) (by intro u μ ρ H; have e48 := H.g 48 2; exact ex_load_gl rfl e48 (H.blk (B_m (by first | omega | (simp; done) | (simp; omega))) (Nat.le_refl _) (no_nil _)) Q_m (by first | omega | (simp; done) | (simp; omega))) ?_
    refine .mz rfl 0 (V := .slice p_g0 l.length c_g0) rfl ?_
    refine .mz rfl 8 (V := .int .i64 y) rfl ?_
    refine Go2.eq (i := 6) rfl (G0 rfl) (V := .pointer (some ⟨slB p_g0, slO p_g0 + 8 * y.toNat, none⟩)) (by intro u μ ρ H; have e50 := H.g 50 4; have e51 := H.g 51 5; exact ex_index_gl rfl e50 e51 (by first | omega | (simp; done) | (simp; omega)) (by first | omega | (simp; done) | (simp; omega)) P_g0.out) ?_
    refine Go2.eq (i := 7) rfl (G0 rfl) (V := rgV (l.getD y.toNat rg0)) (by intro u μ ρ H; have e52 := H.g 52 6; exact ex_load_gl rfl e52 (H.blk (B_g0 (by first | omega | (simp; done) | (simp; omega))) (Nat.le_refl _) (no_nil _)) Q_g0 (by first | omega | (simp; done) | (simp; omega))) ?_
    refine .e rfl (V := .bool false) (fun H => ex_neq_gauss (r := l.getD y.toNat rg0) (q := l.getD y.toNat rg0) _ _ rfl (H.g 49 3) (H.g 53 7) (rfl.trans (decide_eq_true rfl))) ?_
    refine .dk (fun u => .slice p_g0 l.length c_g0::U::d2::.slice p_m l.length c_m::u5 5::u5 7::u6 5::u6 7::.int .i64 y::sq u2 0 12 (U::.slice p_g0 l.length c_g0::v37::gV (Cx.ofInt (4242 : Int) (0 : Int))::.slice (some ⟨b40, 0, none⟩) 1 1::.slice p_m (l ++ [rg (Cx.ofInt (4242 : Int) (0 : Int))]).length c_m::.slice p_g0 l.length c_g0::.int .i64 ((l.length : Nat) : Int)::.slice p_m l.length c_m::u5 2::u5 0::u5 1::u5 3::u5 4::u6 2::u6 0::u6 1::u6 3::u6 4::sq u8 0 4 (d44::d45::sq u 0 9 (us 25)))) K57 bel fun u9 w9 D bel => ?_
    have E9_0 := D.q 0
    have E9_1 := D.q 1
    have E9_2 := D.q 2
    have E9_3 := D.q 3
    have E9_4 := D.q 4
    have E9_5 := D.q 5
    have E9_6 := D.q 6
    have E9_7 := D.q 7
    have E9_8 := D.q 8
    replace B_b44 := D.k B_b44
    replace B_b46 := D.k B_b46
    replace B_g0 := fun h => D.k (B_g0 h)
    replace B_m := fun h => D.k (B_m h)
    replace B_k := fun h => D.k (B_k h)
    clear D
    refine wp_cond_false (by exact E9_8) ?_
    refine wp_skip ?_
    refine inBlock_normal ?_
    refine K56 _ _ ?_
    refine wp_region_list ?_
    refine wpT_val rfl (ex_move rfl) ?_
    refine wpList_as (fr (.slice p_g0 l.length c_g0::U::d2::.slice p_m l.length c_m::u5 5::u5 7::u6 5::u6 7::.int .i64 y::sq u2 0 12 (U::.slice p_g0 l.length c_g0::v37::gV (Cx.ofInt (4242 : Int) (0 : Int))::.slice (some ⟨b40, 0, none⟩) 1 1::.slice p_m (l ++ [rg (Cx.ofInt (4242 : Int) (0 : Int))]).length c_m::.slice p_g0 l.length c_g0::.int .i64 ((l.length : Nat) : Int)::.slice p_m l.length c_m::u5 2::u5 0::u5 1::u5 3::u5 4::u6 2::u6 0::u6 1::u6 3::u6 4::sq u8 0 4 (.int .i64 y::d45::sq u9 0 9 (us 25))))) (by kernel_rfl) ?_
    refine wpT_val (v := .int .i64 (y + 1)) rfl (by have aw_ : IntKind.wrap .i64 (y + 1) = y + 1 := IntWalk.i64_in _ (by omega); go_simp) ?_
    refine wpList_as (fr (.slice p_g0 l.length c_g0::U::d2::.slice p_m l.length c_m::u5 5::u5 7::u6 5::u6 7::.int .i64 y::sq u2 0 12 (U::.slice p_g0 l.length c_g0::v37::gV (Cx.ofInt (4242 : Int) (0 : Int))::.slice (some ⟨b40, 0, none⟩) 1 1::.slice p_m (l ++ [rg (Cx.ofInt (4242 : Int) (0 : Int))]).length c_m::.slice p_g0 l.length c_g0::.int .i64 ((l.length : Nat) : Int)::.slice p_m l.length c_m::u5 2::u5 0::u5 1::u5 3::u5 4::u6 2::u6 0::u6 1::u6 3::u6 4::sq u8 0 4 (.int .i64 y::.int .i64 (y + 1)::sq u9 0 9 (us 25))))) (by kernel_rfl) ?_
    refine wpT_val rfl (ex_assign rfl) ?_
    refine wpList_as (fr (.slice p_g0 l.length c_g0::U::d2::.slice p_m l.length c_m::u5 5::u5 7::u6 5::u6 7::.int .i64 (y + 1)::sq u2 0 12 (U::.slice p_g0 l.length c_g0::v37::gV (Cx.ofInt (4242 : Int) (0 : Int))::.slice (some ⟨b40, 0, none⟩) 1 1::.slice p_m (l ++ [rg (Cx.ofInt (4242 : Int) (0 : Int))]).length c_m::.slice p_g0 l.length c_g0::.int .i64 ((l.length : Nat) : Int)::.slice p_m l.length c_m::u5 2::u5 0::u5 1::u5 3::u5 4::u6 2::u6 0::u6 1::u6 3::u6 4::sq u8 0 4 (.int .i64 y::.int .i64 (y + 1)::sq u9 0 9 (us 25))))) (by kernel_rfl) ?_
    refine wpList_nil ?_
    show _
    refine hK51 _ _ (Handed.intro ((((l.length : Nat) : Int) - (y + 1)).toNat) (by rw [hn52]; omega) (hJ50 _ _ _ ⟨_, _, _, _, _, _, _, _, _, _, _, _, _, _, _, _, _, y + 1, rfl, rfl, by omega, by omega, rfl, B_b44, B_b46, B_g0, B_k, B_m, bel⟩))
   ·
    refine wp_cond_false ((E8_3).trans (congrArg Value.bool c55)) ?_
    have dc55 := of_decide_eq_false c55
    refine wp_exit ?_
    refine then_exit ?_
    refine then_exit ?_
    refine inBlock_here ?_
    refine K47 _ _ ?_
    refine gd 26 (Amb Z0 W) fun _ K58 => ?_
    refine .lr rfl 4 E5_5 B_b44 ?_
    refine .lr rfl 6 E6_5 B_b46 ?_
    refine .e rfl (V := .bool true) (fun H => ex_eql_gauss (r := (mkRes l).1) (q := (mkRes l).1) _ _ rfl (H.g 55 0) (H.g 56 1) (rfl.trans (decide_eq_true rfl))) ?_
    refine .mv rfl 2 ?_
    refine .mz rfl 5 E5_7 ?_ (hg := gq 3 rfl)
    refine .mz rfl 7 E6_7 ?_ (hg := gq 3 rfl)
    refine .e rfl (V := .bool true) (fun H => x_cm (H.g 59 4) (H.g 60 5) (beq_self_eq_true ((mkRes l).2))) ?_ (hg := gq 3 rfl)
    refine .e rfl (fun H => x_pkT (H.g 58 3) (H.g 61 6)) ?_
    refine .mv rfl 7 ?_
    refine .mz rfl 3 (V := .slice p_m l.length c_m) rfl ?_ (hg := gq 8 rfl)
    refine .mz rfl 0 (V := .slice p_g0 l.length c_g0) rfl ?_ (hg := gq 8 rfl)
    refine .e rfl (V := .int .i64 ((l.length : Nat) : Int)) (fun H => by have e65 := H.g 65 10; clear H; go_simp) ?_ (hg := gq 8 rfl)
    refine .e rfl (V := .int .i64 (((l.length : Nat) : Int) + 1)) (fun H => x_ari (H.g 66 11) (H.c _) (IntWalk.i64_in _ (by omega))) ?_ (hg := gq 8 rfl)
    refine Go2.eq (i := 13) rfl (gq 8 rfl) (V := .slice p_m (l ++ [rg (Cx.ofInt (4242 : Int) (0 : Int))]).length c_m) (by intro u μ ρ H; have e64 := H.g 64 9; have e67 := H.g 67 12; exact ex_slice_gl (k := (l ++ [rg (Cx.ofInt (4242 : Int) (0 : Int))]).length) rfl e64 e67 (by simp) y_k) ?_
    refine .mz rfl 0 (V := .slice p_g0 l.length c_g0) rfl ?_ (hg := gq 8 rfl)
    refine .e rfl (V := .int .i64 ((l.length : Nat) : Int)) (fun H => by have e69 := H.g 69 14; clear H; go_simp) ?_ (hg := gq 8 rfl)
    refine Go2.eq (i := 16) rfl (gq 8 rfl) (V := .pointer (some ⟨slB p_m, slO p_m + 8 * ((l.length : Nat) : Int).toNat, none⟩)) (by intro u μ ρ H; have e68 := H.g 68 13; have e70 := H.g 70 15; exact ex_index_gl rfl e68 e70 (by first | omega | (simp; done) | (simp; omega)) (by first | omega | (simp; done) | (simp; omega)) P_k.out) ?_
    refine .fj rfl 16 (slO p_m + 8 * ((l.length : Nat) : Int).toNat) ?_ (hg := gq 8 rfl)
    refine Go2.eq (i := 18) rfl (gq 8 rfl) (V := fV ((Cx.ofInt (4242 : Int) (0 : Int)).re)) (by intro u μ ρ H; have e72 := H.g 72 17; exact ex_load_re (q := (Cx.ofInt (4242 : Int) (0 : Int)).re) rfl e72 (H.blk (B_k (by first | omega | (simp; done) | (simp; omega))) (Nat.le_refl _) (no_nil _)) Q_k (by first | omega | (simp; done) | (simp; omega)) (by rw [Int.toNat_natCast, last_get])) ?_
    refine .cK rfl Tryz.func13 (fun H => ⟨_, ar1 (H.c (.int .i64 4242)), fInt _ (by omega) (by omega)⟩) ?_ (hg := gq 8 rfl)
    refine .e rfl (V := .bool true) (fun H => ex_eql_frac (r := rf ((Cx.ofInt (4242 : Int) (0 : Int)).re)) (q := rf ((4242 : Int) : Rat)) _ _ rfl (H.g 73 18) (H.g 74 19) ((rf_dec ((Cx.ofInt (4242 : Int) (0 : Int)).re) ((4242 : Int) : Rat)).trans (decide_eq_true rfl))) ?_ (hg := gq 8 rfl)
    refine .e rfl (fun H => x_pkT (H.g 63 8) (H.g 75 20)) ?_
    refine .mv rfl 21 ?_
    refine .cK rfl Tryz.func9 (fun H => ⟨_, ar0, lKnown⟩) ?_ (hg := gq 22 rfl)
    refine .e rfl (fun H => x_pkT (H.g 77 22) (H.g 78 23)) ?_
    refine .mv rfl 24 ?_
    refine .dk (fun u => .slice p_g0 l.length c_g0::U::u 25::.slice p_m l.length c_m::u5 5::u5 7::u6 5::u6 7::.int .i64 y::sq u2 0 12 (U::.slice p_g0 l.length c_g0::v37::gV (Cx.ofInt (4242 : Int) (0 : Int))::.slice (some ⟨b40, 0, none⟩) 1 1::.slice p_m (l ++ [rg (Cx.ofInt (4242 : Int) (0 : Int))]).length c_m::.slice p_g0 l.length c_g0::.int .i64 ((l.length : Nat) : Int)::.slice p_m l.length c_m::u5 2::u5 0::u5 1::u5 3::u5 4::u6 2::u6 0::u6 1::u6 3::u6 4::sq u8 0 4 (d44::d45::d46::d47::d48::d49::d50::d51::d52::d53::d54::sq u 0 25 []))) K58 bel fun u11 w11 D bel => ?_
    have E11_25 := D.q 25
    replace B_g0 := fun h => D.k (B_g0 h)
    replace B_m := fun h => D.k (B_m h)
    replace B_k := fun h => D.k (B_k h)
    clear D
    exact wp_ret (rt rfl E11_25 rfl bel)
end Go.Proofs.YtllohoibifcmdaaGreat
namespace Go.Proofs.YtllohoibifcmdaaGreat
open Go.ChangeShapes Go.WideShapes Go.ChangeAt Go.RowKit
theorem list2 {cs : List Value} (h : cs.length = 2) : ∃ a b, cs = [a, b] := by
  match cs, h with
  | [a, b], _ => exact ⟨a, b, rfl⟩
theorem list4 {cs : List Value} (h : cs.length = 4) : ∃ a b c d, cs = [a, b, c, d] := by
  match cs, h with
  | [a, b, c, d], _ => exact ⟨a, b, c, d, rfl⟩
theorem list8 {cs : List Value} (h : cs.length = 8) : ∃ a b c d e f g i, cs = [a, b, c, d, e, f, g, i] := by
  match cs, h with
  | [a, b, c, d, e, f, g, i], _ => exact ⟨a, b, c, d, e, f, g, i, rfl⟩
section
variable {H : Type} {enc : TypeId × Value → H} {w : World} {base : Nat} {spare : Nat → Bool} {held : Bool}
theorem rd_whole {fuel : Nat} {cs : List Value} {x : DataW H × List MemPlace} (h : DataW.trod enc Tryz.prog w base spare held fuel 26 cs = some x) : ∃ r : RW, cs = (rwC r).toList := by
  obtain ⟨y0, y1, n, _, hl, h0, h1⟩ := trod_struct2 Tryz.underlying26 h
  obtain ⟨b, e0, _⟩ := DataW.trod_bool Tryz.underlying4 h0
  obtain ⟨s, e1, _, _⟩ := DataW.trod_string Tryz.underlying9 h1
  rw [show Tryz.prog.cellsOf 26 = 2 by kernel_rfl] at hl
  rw [show Tryz.prog.cellsOf 4 = 1 by kernel_rfl] at e0
  rw [show Tryz.prog.cellsOf 9 = 1 by kernel_rfl] at e1
  obtain ⟨u, v, rfl⟩ := list2 hl
  simp only [List.drop_zero, List.take_succ_cons, List.take_zero, List.cons.injEq, and_true] at e0
  simp only [List.drop_succ_cons, List.drop_zero, List.take_succ_cons, List.take_zero, List.cons.injEq, and_true] at e1
  subst e0; subst e1
  exact ⟨⟨b, s⟩, rfl⟩
theorem rd_frac {fuel : Nat} {cs : List Value} {x : DataW H × List MemPlace} (h : DataW.trod enc Tryz.prog w base spare held fuel 28 cs = some x) : ∃ r : RF, cs = (rfC r).toList := by
  obtain ⟨y0, y1, n, _, hl, h0, h1⟩ := trod_struct2 Tryz.underlying28 h
  obtain ⟨a, e0⟩ := rd_whole h0
  obtain ⟨b, e1⟩ := rd_whole h1
  rw [show Tryz.prog.cellsOf 28 = 4 by kernel_rfl] at hl
  rw [show Tryz.prog.cellsOf 26 = 2 by kernel_rfl] at e0 e1
  obtain ⟨u0, u1, u2, u3, rfl⟩ := list4 hl
  simp only [List.drop_zero, List.drop_succ_cons, List.take_succ_cons, List.take_zero, List.cons.injEq, and_true] at e0 e1
  obtain ⟨rfl, rfl⟩ := e0
  obtain ⟨rfl, rfl⟩ := e1
  exact ⟨⟨a, b⟩, rfl⟩
theorem rd_gauss {fuel : Nat} {cs : List Value} {x : DataW H × List MemPlace} (h : DataW.trod enc Tryz.prog w base spare held fuel 30 cs = some x) : ∃ r : RG, cs = (rgC r).toList := by
  obtain ⟨y0, y1, n, _, hl, h0, h1⟩ := trod_struct2 Tryz.underlying30 h
  obtain ⟨a, e0⟩ := rd_frac h0
  obtain ⟨b, e1⟩ := rd_frac h1
  rw [show Tryz.prog.cellsOf 30 = 8 by kernel_rfl] at hl
  rw [show Tryz.prog.cellsOf 28 = 4 by kernel_rfl] at e0 e1
  obtain ⟨u0, u1, u2, u3, u4, u5, u6, u7, rfl⟩ := list8 hl
  simp only [List.drop_zero, List.drop_succ_cons, List.take_succ_cons, List.take_zero, List.cons.injEq, and_true] at e0 e1
  obtain ⟨rfl, rfl, rfl, rfl⟩ := e0
  obtain ⟨rfl, rfl, rfl, rfl⟩ := e1
  exact ⟨⟨a, b⟩, rfl⟩
end
end Go.Proofs.YtllohoibifcmdaaGreat
