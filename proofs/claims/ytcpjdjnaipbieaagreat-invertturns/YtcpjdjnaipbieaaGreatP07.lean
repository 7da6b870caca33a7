/- tracerylaw14.InvertTurns returns true for any two circles, any map and any point, and changes nothing that it was handed. No condition. -/
import Derived.Test.YtcpjdjnaipbieaaGreatP06
import Derived.ProofKit
import Derived.OpenShut
import Derived.JoinedCond
import Derived.Deep.Slices
import Derived.Deep.Strs
import Derived.Test.YtcpjdjnaipbieaaGreatRows
import Derived.WalkKit
import Derived.Below
import Derived.ChangeSame
import Derived.WideKeyArgs
import Derived.JoinedOf
import Derived.JoinedAt
set_option linter.unusedVariables false
set_option linter.unusedSimpArgs false
namespace Go.Proofs.YtcpjdjnaipbieaaGreat
open Go.RowKit Rgn
set_option maxHeartbeats 4000000
set_option maxRecDepth 100000
variable {S:Nat → Prop} {W:World}
theorem ivCh2 {b1:Nat} (x:Ci) (y:Ci) (B1:W.heap[b1]? = some (.cells #[.bool (decide (x.a.num < 0)),.string (bS x.a.num.natAbs),.bool (decide ((x.a.den:Int) < 0)),.string (bS (x.a.den:Int).natAbs),.bool (decide (x.b.re.num < 0)),.string (bS x.b.re.num.natAbs),.bool (decide ((x.b.re.den:Int) < 0)),.string (bS (x.b.re.den:Int).natAbs),.bool (decide (x.b.im.num < 0)),.string (bS x.b.im.num.natAbs),.bool (decide ((x.b.im.den:Int) < 0)),.string (bS (x.b.im.den:Int).natAbs),.bool (decide (x.c.num < 0)),.string (bS x.c.num.natAbs),.bool (decide ((x.c.den:Int) < 0)),.string (bS (x.c.den:Int).natAbs),.bool (decide (y.a.num < 0)),.string (bS y.a.num.natAbs),.bool (decide ((y.a.den:Int) < 0)),.string (bS (y.a.den:Int).natAbs),.bool (decide (y.b.re.num < 0)),.string (bS y.b.re.num.natAbs),.bool (decide ((y.b.re.den:Int) < 0)),.string (bS (y.b.re.den:Int).natAbs),.bool (decide (y.b.im.num < 0)),.string (bS y.b.im.num.natAbs),.bool (decide ((y.b.im.den:Int) < 0)),.string (bS (y.b.im.den:Int).natAbs),.bool (decide (y.c.num < 0)),.string (bS y.c.num.natAbs),.bool (decide ((y.c.den:Int) < 0)),.string (bS (y.c.den:Int).natAbs)] 47 (0,0))) (p0:ciOk (rci x) = true) (p1:ciOk (rci y) = true) (p2:mbfits (rmb (x.over.behind (Mb.mk (Cx.ofInt (1:Int) (0:Int)) ⟨0,0⟩ ⟨0,0⟩ (Cx.ofInt (1:Int) (0:Int)) false)).nrm) = true) (p3:mbfits (rmb (y.over.behind (x.over.behind (Mb.mk (Cx.ofInt (1:Int) (0:Int)) ⟨0,0⟩ ⟨0,0⟩ (Cx.ofInt (1:Int) (0:Int)) false))).nrm) = true) (p4:(x.over.dot (Mb.cjM true (Mb.mk (Cx.ofInt (1:Int) (0:Int)) ⟨0,0⟩ ⟨0,0⟩ (Cx.ofInt (1:Int) (0:Int)) false))).piv.zero = false) (p5:(y.over.dot (Mb.cjM true (x.over.behind (Mb.mk (Cx.ofInt (1:Int) (0:Int)) ⟨0,0⟩ ⟨0,0⟩ (Cx.ofInt (1:Int) (0:Int)) false)))).piv.zero = false) (p6:(x.over.behind (Mb.mk (Cx.ofInt (1:Int) (0:Int)) ⟨0,0⟩ ⟨0,0⟩ (Cx.ofInt (1:Int) (0:Int)) false)).piv.zero = false) (p7:(y.over.behind (x.over.behind (Mb.mk (Cx.ofInt (1:Int) (0:Int)) ⟨0,0⟩ ⟨0,0⟩ (Cx.ofInt (1:Int) (0:Int)) false))).piv.zero = false) :
  Calls Tryz.prog 56 #[.slice (some ⟨b1,0,none⟩) 2 2] W (RetV (.tuple #[.agg #[.bool ((((mbcut (y.over.behind (x.over.behind (Mb.mk (Cx.ofInt (1:Int) (0:Int)) ⟨0,0⟩ ⟨0,0⟩ (Cx.ofInt (1:Int) (0:Int)) false))).nrm).a).re).a).n,.string ((((mbcut (y.over.behind (x.over.behind (Mb.mk (Cx.ofInt (1:Int) (0:Int)) ⟨0,0⟩ ⟨0,0⟩ (Cx.ofInt (1:Int) (0:Int)) false))).nrm).a).re).a).s,.bool ((((mbcut (y.over.behind (x.over.behind (Mb.mk (Cx.ofInt (1:Int) (0:Int)) ⟨0,0⟩ ⟨0,0⟩ (Cx.ofInt (1:Int) (0:Int)) false))).nrm).a).re).b).n,.string ((((mbcut (y.over.behind (x.over.behind (Mb.mk (Cx.ofInt (1:Int) (0:Int)) ⟨0,0⟩ ⟨0,0⟩ (Cx.ofInt (1:Int) (0:Int)) false))).nrm).a).re).b).s,.bool ((((mbcut (y.over.behind (x.over.behind (Mb.mk (Cx.ofInt (1:Int) (0:Int)) ⟨0,0⟩ ⟨0,0⟩ (Cx.ofInt (1:Int) (0:Int)) false))).nrm).a).im).a).n,.string ((((mbcut (y.over.behind (x.over.behind (Mb.mk (Cx.ofInt (1:Int) (0:Int)) ⟨0,0⟩ ⟨0,0⟩ (Cx.ofInt (1:Int) (0:Int)) false))).nrm).a).im).a).s,.bool ((((mbcut (y.over.behind (x.over.behind (Mb.mk (Cx.ofInt (1:Int) (0:Int)) ⟨0,0⟩ ⟨0,0⟩ (Cx.ofInt (1:Int) (0:Int)) false))).nrm).a).im).b).n,.string ((((mbcut (y.over.behind (x.over.behind (Mb.mk (Cx.ofInt (1:Int) (0:Int)) ⟨0,0⟩ ⟨0,0⟩ (Cx.ofInt (1:Int) (0:Int)) false))).nrm).a).im).b).s,.bool ((((mbcut (y.over.behind (x.over.behind (Mb.mk (Cx.ofInt (1:Int) (0:Int)) ⟨0,0⟩ ⟨0,0⟩ (Cx.ofInt (1:Int) (0:Int)) false))).nrm).b).re).a).n,.string ((((mbcut (y.over.behind (x.over.behind (Mb.mk (Cx.ofInt (1:Int) (0:Int)) ⟨0,0⟩ ⟨0,0⟩ (Cx.ofInt (1:Int) (0:Int)) false))).nrm).b).re).a).s,.bool ((((mbcut (y.over.behind (x.over.behind (Mb.mk (Cx.ofInt (1:Int) (0:Int)) ⟨0,0⟩ ⟨0,0⟩ (Cx.ofInt (1:Int) (0:Int)) false))).nrm).b).re).b).n,.string ((((mbcut (y.over.behind (x.over.behind (Mb.mk (Cx.ofInt (1:Int) (0:Int)) ⟨0,0⟩ ⟨0,0⟩ (Cx.ofInt (1:Int) (0:Int)) false))).nrm).b).re).b).s,.bool ((((mbcut (y.over.behind (x.over.behind (Mb.mk (Cx.ofInt (1:Int) (0:Int)) ⟨0,0⟩ ⟨0,0⟩ (Cx.ofInt (1:Int) (0:Int)) false))).nrm).b).im).a).n,.string ((((mbcut (y.over.behind (x.over.behind (Mb.mk (Cx.ofInt (1:Int) (0:Int)) ⟨0,0⟩ ⟨0,0⟩ (Cx.ofInt (1:Int) (0:Int)) false))).nrm).b).im).a).s,.bool ((((mbcut (y.over.behind (x.over.behind (Mb.mk (Cx.ofInt (1:Int) (0:Int)) ⟨0,0⟩ ⟨0,0⟩ (Cx.ofInt (1:Int) (0:Int)) false))).nrm).b).im).b).n,.string ((((mbcut (y.over.behind (x.over.behind (Mb.mk (Cx.ofInt (1:Int) (0:Int)) ⟨0,0⟩ ⟨0,0⟩ (Cx.ofInt (1:Int) (0:Int)) false))).nrm).b).im).b).s,.bool ((((mbcut (y.over.behind (x.over.behind (Mb.mk (Cx.ofInt (1:Int) (0:Int)) ⟨0,0⟩ ⟨0,0⟩ (Cx.ofInt (1:Int) (0:Int)) false))).nrm).c).re).a).n,.string ((((mbcut (y.over.behind (x.over.behind (Mb.mk (Cx.ofInt (1:Int) (0:Int)) ⟨0,0⟩ ⟨0,0⟩ (Cx.ofInt (1:Int) (0:Int)) false))).nrm).c).re).a).s,.bool ((((mbcut (y.over.behind (x.over.behind (Mb.mk (Cx.ofInt (1:Int) (0:Int)) ⟨0,0⟩ ⟨0,0⟩ (Cx.ofInt (1:Int) (0:Int)) false))).nrm).c).re).b).n,.string ((((mbcut (y.over.behind (x.over.behind (Mb.mk (Cx.ofInt (1:Int) (0:Int)) ⟨0,0⟩ ⟨0,0⟩ (Cx.ofInt (1:Int) (0:Int)) false))).nrm).c).re).b).s,.bool ((((mbcut (y.over.behind (x.over.behind (Mb.mk (Cx.ofInt (1:Int) (0:Int)) ⟨0,0⟩ ⟨0,0⟩ (Cx.ofInt (1:Int) (0:Int)) false))).nrm).c).im).a).n,.string ((((mbcut (y.over.behind (x.over.behind (Mb.mk (Cx.ofInt (1:Int) (0:Int)) ⟨0,0⟩ ⟨0,0⟩ (Cx.ofInt (1:Int) (0:Int)) false))).nrm).c).im).a).s,.bool ((((mbcut (y.over.behind (x.over.behind (Mb.mk (Cx.ofInt (1:Int) (0:Int)) ⟨0,0⟩ ⟨0,0⟩ (Cx.ofInt (1:Int) (0:Int)) false))).nrm).c).im).b).n,.string ((((mbcut (y.over.behind (x.over.behind (Mb.mk (Cx.ofInt (1:Int) (0:Int)) ⟨0,0⟩ ⟨0,0⟩ (Cx.ofInt (1:Int) (0:Int)) false))).nrm).c).im).b).s,.bool ((((mbcut (y.over.behind (x.over.behind (Mb.mk (Cx.ofInt (1:Int) (0:Int)) ⟨0,0⟩ ⟨0,0⟩ (Cx.ofInt (1:Int) (0:Int)) false))).nrm).d).re).a).n,.string ((((mbcut (y.over.behind (x.over.behind (Mb.mk (Cx.ofInt (1:Int) (0:Int)) ⟨0,0⟩ ⟨0,0⟩ (Cx.ofInt (1:Int) (0:Int)) false))).nrm).d).re).a).s,.bool ((((mbcut (y.over.behind (x.over.behind (Mb.mk (Cx.ofInt (1:Int) (0:Int)) ⟨0,0⟩ ⟨0,0⟩ (Cx.ofInt (1:Int) (0:Int)) false))).nrm).d).re).b).n,.string ((((mbcut (y.over.behind (x.over.behind (Mb.mk (Cx.ofInt (1:Int) (0:Int)) ⟨0,0⟩ ⟨0,0⟩ (Cx.ofInt (1:Int) (0:Int)) false))).nrm).d).re).b).s,.bool ((((mbcut (y.over.behind (x.over.behind (Mb.mk (Cx.ofInt (1:Int) (0:Int)) ⟨0,0⟩ ⟨0,0⟩ (Cx.ofInt (1:Int) (0:Int)) false))).nrm).d).im).a).n,.string ((((mbcut (y.over.behind (x.over.behind (Mb.mk (Cx.ofInt (1:Int) (0:Int)) ⟨0,0⟩ ⟨0,0⟩ (Cx.ofInt (1:Int) (0:Int)) false))).nrm).d).im).a).s,.bool ((((mbcut (y.over.behind (x.over.behind (Mb.mk (Cx.ofInt (1:Int) (0:Int)) ⟨0,0⟩ ⟨0,0⟩ (Cx.ofInt (1:Int) (0:Int)) false))).nrm).d).im).b).n,.string ((((mbcut (y.over.behind (x.over.behind (Mb.mk (Cx.ofInt (1:Int) (0:Int)) ⟨0,0⟩ ⟨0,0⟩ (Cx.ofInt (1:Int) (0:Int)) false))).nrm).d).im).b).s,.bool ((mbcut (y.over.behind (x.over.behind (Mb.mk (Cx.ofInt (1:Int) (0:Int)) ⟨0,0⟩ ⟨0,0⟩ (Cx.ofInt (1:Int) (0:Int)) false))).nrm).t)],.int .i64 (mberr (y.over.behind (x.over.behind (Mb.mk (Cx.ofInt (1:Int) (0:Int)) ⟨0,0⟩ ⟨0,0⟩ (Cx.ofInt (1:Int) (0:Int)) false))).nrm)]) W):=by
 have X1:=lt_of B1
 have f1:=cifits_ht (ciOk_c p0).1
 have f2:=cifits_ht (ciOk_c p1).1
 have o1:=over_l2 f1
 have o2:=over_l2 f2
 have s1:ht (Mb.mk (Cx.ofInt (1:Int) (0:Int)) ⟨0,0⟩ ⟨0,0⟩ (Cx.ofInt (1:Int) (0:Int)) false).a.re + ht (Mb.mk (Cx.ofInt (1:Int) (0:Int)) ⟨0,0⟩ ⟨0,0⟩ (Cx.ofInt (1:Int) (0:Int)) false).a.im + ht (Mb.mk (Cx.ofInt (1:Int) (0:Int)) ⟨0,0⟩ ⟨0,0⟩ (Cx.ofInt (1:Int) (0:Int)) false).b.re + ht (Mb.mk (Cx.ofInt (1:Int) (0:Int)) ⟨0,0⟩ ⟨0,0⟩ (Cx.ofInt (1:Int) (0:Int)) false).b.im + ht (Mb.mk (Cx.ofInt (1:Int) (0:Int)) ⟨0,0⟩ ⟨0,0⟩ (Cx.ofInt (1:Int) (0:Int)) false).c.re + ht (Mb.mk (Cx.ofInt (1:Int) (0:Int)) ⟨0,0⟩ ⟨0,0⟩ (Cx.ofInt (1:Int) (0:Int)) false).c.im + ht (Mb.mk (Cx.ofInt (1:Int) (0:Int)) ⟨0,0⟩ ⟨0,0⟩ (Cx.ofInt (1:Int) (0:Int)) false).d.re + ht (Mb.mk (Cx.ofInt (1:Int) (0:Int)) ⟨0,0⟩ ⟨0,0⟩ (Cx.ofInt (1:Int) (0:Int)) false).d.im ≤ 100:=by decide
 have e1:(x.over.behind (Mb.mk (Cx.ofInt (1:Int) (0:Int)) ⟨0,0⟩ ⟨0,0⟩ (Cx.ofInt (1:Int) (0:Int)) false)).nrm = x.over.behind (Mb.mk (Cx.ofInt (1:Int) (0:Int)) ⟨0,0⟩ ⟨0,0⟩ (Cx.ofInt (1:Int) (0:Int)) false):=nrm2 p4
 have e2:(y.over.behind (x.over.behind (Mb.mk (Cx.ofInt (1:Int) (0:Int)) ⟨0,0⟩ ⟨0,0⟩ (Cx.ofInt (1:Int) (0:Int)) false))).nrm = y.over.behind (x.over.behind (Mb.mk (Cx.ofInt (1:Int) (0:Int)) ⟨0,0⟩ ⟨0,0⟩ (Cx.ofInt (1:Int) (0:Int)) false)):=nrm2 p5
 have q1:=p2
 rw [e1] at q1
 have q2:=p3
 rw [e2] at q2
 have g1:=mbfits_ht q1
 have g2:=mbfits_ht q2
 clear q1 q2
 have bel:=b0 W
 go_enter Tryz.func56,Tryz.ntmps56
 refine gs 2 (Amb Z0 W) fun _ K2=>?_
 refine .al rfl zMb ?_
 refine .mc rfl ?_
 refine .dk (fun u=>.slice (some ⟨b1,0,none⟩) 2 2::U::u 0::u 1::us 37) K2 bel fun u1 w1 D bel=>?_
 obtain ⟨b3,E1_0,A3,B3⟩:=D.nw 0
 have E1_1:=D.q 1
 have N1_3:=D.n1 0 (lt_of B1) E1_0
 replace B1:=D.k B1
 clear D
 refine wp_scope_straight ?_
 refine wp_seq_k fun _ K4=>?_
 refine wp_region_list ?_
 refine wpT_val rfl (ex_move rfl) ?_
 refine wpT_row (S:=Amb Z0 W) rfl (ex_call rfl rfl Tryz.func160 (by kernel_rfl) (by kernel_rfl) (by simp only [List.map_toArray,List.map_cons,List.map_nil]; rfl)) (ivWhY (x:=x) (y:=y) B1 (by first | assumption | omega) (by first | assumption | omega)) fun b6 c6 u_b6 vs_ w5 A6 B6 Q6 f_0 ow5=>?_
 obtain ⟨b7,x9,x10,b8,vt_,e_,L7,L8,F7,F_x9,F_x10,F8,f_1⟩:=AllG.cons f_0
 subst e_
 replace L7:Amb Z0 W b7:=L7.elim id (fun h=>.inr (Nat.le_trans bel.size h))
 replace L8:Amb Z0 W b8:=L8.elim id (fun h=>.inr (Nat.le_trans bel.size h))
 replace F_x9:(RatN x.b.re).p (Amb Z0 W) x9 w5:=(RatN x.b.re).mono (fun _ _ h=>h.elim id (fun h=>.inr (Nat.le_trans bel.size h))) F_x9
 replace F_x10:(RatN x.b.im).p (Amb Z0 W) x10 w5:=(RatN x.b.im).mono (fun _ _ h=>h.elim id (fun h=>.inr (Nat.le_trans bel.size h))) F_x10
 obtain ⟨b11,x13,x14,b12,vt_,e_,L11,L12,F11,F_x13,F_x14,F12,f_2⟩:=AllG.cons f_1
 subst e_
 replace L11:Amb Z0 W b11:=L11.elim id (fun h=>.inr (Nat.le_trans bel.size h))
 replace L12:Amb Z0 W b12:=L12.elim id (fun h=>.inr (Nat.le_trans bel.size h))
 replace F_x13:(RatN y.b.re).p (Amb Z0 W) x13 w5:=(RatN y.b.re).mono (fun _ _ h=>h.elim id (fun h=>.inr (Nat.le_trans bel.size h))) F_x13
 replace F_x14:(RatN y.b.im).p (Amb Z0 W) x14 w5:=(RatN y.b.im).mono (fun _ _ h=>h.elim id (fun h=>.inr (Nat.le_trans bel.size h))) F_x14
 obtain rfl:=AllG.nil f_2
 replace A6:=Nat.le_trans bel.size A6
 replace B1:=(ow5.block b1 (lt_of B1)).trans B1
 replace B3:=(ow5.block b3 (lt_of B3)).trans B3
 replace bel:=bel.trans (ow5.mono bel.size)
 refine wpT_val rfl (ex_move rfl) ?_
 refine wpT_val (v:=.slice (some ⟨b6,0,none⟩) 2 c6) rfl (x_ex (vs:=#[.slice (some ⟨b6,0,none⟩) 2 c6,.int .i64 0]) rfl) ?_
 refine wpList_as (fr (.slice (some ⟨b1,0,none⟩) 2 2::U::u1 0::u1 1::U::U::U::U::U::U::.tuple #[.slice (some ⟨b6,0,none⟩) 2 c6,.int .i64 0]::.slice (some ⟨b1,0,none⟩) 2 2::.tuple #[.slice (some ⟨b6,0,none⟩) 2 c6,.int .i64 0]::.slice (some ⟨b6,0,none⟩) 2 c6::us 27)) (by kernel_rfl) ?_
 refine wpT_val (v:=.int .i64 0) rfl (x_ex (vs:=#[.slice (some ⟨b6,0,none⟩) 2 c6,.int .i64 0]) rfl) ?_
 refine wpT_val rfl (ex_assign rfl) ?_
 refine wpT_val rfl (ex_assign rfl) ?_
 refine wpList_as (fr (.slice (some ⟨b1,0,none⟩) 2 2::U::u1 0::u1 1::.slice (some ⟨b6,0,none⟩) 2 c6::.int .i64 0::U::U::U::U::.tuple #[.slice (some ⟨b6,0,none⟩) 2 c6,.int .i64 0]::.slice (some ⟨b1,0,none⟩) 2 2::.tuple #[.slice (some ⟨b6,0,none⟩) 2 c6,.int .i64 0]::.slice (some ⟨b6,0,none⟩) 2 c6::.int .i64 0::us 26)) (by kernel_rfl) ?_
 refine wpList_nil ?_
 show _
 refine K4 _ _ ?_
 refine wp_seq_k fun _ K15=>?_
 refine gs 2 (Amb Z0 W) fun _ K16=>?_
 refine .mz rfl 5 (V:=.int .i64 0) rfl ?_
 refine .e rfl (V:=.bool false) (fun H=>x_cm (H.g 15 0) (H.c _) (bne_self_eq_false (show Int from 0))) ?_
 refine .dk (fun u=>.slice (some ⟨b1,0,none⟩) 2 2::U::u1 0::u1 1::.slice (some ⟨b6,0,none⟩) 2 c6::.int .i64 0::U::U::U::U::.tuple #[.slice (some ⟨b6,0,none⟩) 2 c6,.int .i64 0]::.slice (some ⟨b1,0,none⟩) 2 2::.tuple #[.slice (some ⟨b6,0,none⟩) 2 c6,.int .i64 0]::.slice (some ⟨b6,0,none⟩) 2 c6::.int .i64 0::u 0::u 1::us 24) K16 bel fun u3 w3 D bel=>?_
 have E3_1:=D.q 1
 replace B3:=D.k B3
 replace F7:=D.o L7 F7
 replace F8:=D.o L8 F8
 replace F11:=D.o L11 F11
 replace F12:=D.o L12 F12
 replace B6:=D.k B6
 replace F_x9:=D.gr (RatN x.b.re) F_x9
 replace F_x10:=D.gr (RatN x.b.im) F_x10
 replace F_x13:=D.gr (RatN y.b.re) F_x13
 replace F_x14:=D.gr (RatN y.b.im) F_x14
 clear D
 refine wp_cond_false (by exact E3_1) ?_
 refine wp_skip ?_
 refine K15 _ _ ?_
 refine gs 3 (Amb Z0 W) fun _ K17=>?_
 refine .cR rfl [] Tryz.func183 (fun H=>⟨_,ar0,eStill⟩) ?_
 refine .al rfl (#[.pointer none,.pointer none,.pointer none,.pointer none,.pointer none,.pointer none,.pointer none,.pointer none,.bool false]) ?_
 refine Go2.storeOwn (i:=2) (m:=1) rfl rfl (.head _) (SP.cells 1 [0] (fun u=>#[((u 0).v.cells.getD 0 undef),((u 0).v.cells.getD 1 undef),((u 0).v.cells.getD 2 undef),((u 0).v.cells.getD 3 undef),((u 0).v.cells.getD 4 undef),((u 0).v.cells.getD 5 undef),((u 0).v.cells.getD 6 undef),((u 0).v.cells.getD 7 undef),.bool false]) 198 (by intro u u' h; simp [h 0 (by simp)])) (fun u μ ρ b H h0 hB hb=>?_) ?_
 · have e6:=H.r 6 1; have e19:=H.r 19 0
   rw [h0] at e6
   obtain ⟨x1,x2,x3,x4,x5,x6,x7,x8,h1,h2,h3,h4,h5,h6,h7,h8,h9⟩:=(H.a 0 rfl)
   have o1:=VP1.ratn h2
   have o2:=VP1.ratn h3
   have o3:=VP1.ratn h4
   have o4:=VP1.ratn h5
   have o5:=VP1.ratn h6
   have o6:=VP1.ratn h7
   have o7:=VP1.ratn h8
   have o8:=VP1.ratn h9
   rw [h1] at e19
   refine ⟨μ.setRow b #[x1,x2,x3,x4,x5,x6,x7,x8,.bool false],ex_store_row 198 _ _ rfl e6 e19 hb (by kernel_rfl) rfl (by simp [o1,o2,o3,o4,o5,o6,o7,o8] <;> rfl),fun g=>⟨b,?_,hB,?_⟩,setRow_only _ _ _⟩
   · rw [upd_other _ _ (by decide)]; exact h0
   · rw [setRow_at hb]; try simp [upd,h1,Value.cells]
 refine .dk (fun u=>.slice (some ⟨b1,0,none⟩) 2 2::U::u1 0::u1 1::.slice (some ⟨b6,0,none⟩) 2 c6::.int .i64 0::u 1::U::U::U::.tuple #[.slice (some ⟨b6,0,none⟩) 2 c6,.int .i64 0]::.slice (some ⟨b1,0,none⟩) 2 2::.tuple #[.slice (some ⟨b6,0,none⟩) 2 c6,.int .i64 0]::.slice (some ⟨b6,0,none⟩) 2 c6::.int .i64 0::u3 0::u3 1::U::U::u 0::us 21) K17 bel fun u4 w4 D bel=>?_
 obtain ⟨x18,x19,x20,x21,x22,x23,x24,x25,E4_0,F_x18,F_x19,F_x20,F_x21,F_x22,F_x23,F_x24,F_x25⟩:=(D.rr 0)
 obtain ⟨b26,E4_1,A26,B26⟩:=(D.a 2 rfl)
 replace A26:=le2 D.le A26
 have N3_26:=D.n1 1 (lt_of B3) E4_1
 have N7_26:=D.n1 1 (RatP.lt F7) E4_1
 have N8_26:=D.n1 1 (RatP.lt F8) E4_1
 have N11_26:=D.n1 1 (RatP.lt F11) E4_1
 have N12_26:=D.n1 1 (RatP.lt F12) E4_1
 have N6_26:=D.n1 1 (lt_of B6) E4_1
 replace B3:=D.k B3
 simp only [Value.cells,E4_0,E4_1] at B26
 replace B26:w4.heap[b26]? = some (.cells #[x18,x19,x20,x21,x22,x23,x24,x25,.bool false] 198 (0,0)):=B26
 replace F7:=D.o L7 F7
 replace F8:=D.o L8 F8
 replace F11:=D.o L11 F11
 replace F12:=D.o L12 F12
 replace B6:=D.k B6
 replace F_x9:=D.gr (RatN x.b.re) F_x9
 replace F_x10:=D.gr (RatN x.b.im) F_x10
 replace F_x13:=D.gr (RatN y.b.re) F_x13
 replace F_x14:=D.gr (RatN y.b.im) F_x14
 clear D
 refine gs 3 (Amb Z0 W) fun _ K27=>?_
 refine .cK rfl Tryz.func101 (fun H=>⟨_,ar0,mbOne⟩) ?_
 refine .al rfl zMb ?_
 refine .so rfl 1 (fun H=>⟨H.r 7 1,H.g 20 0⟩) ?_
 refine .dk (fun u=>.slice (some ⟨b1,0,none⟩) 2 2::U::u1 0::u1 1::.slice (some ⟨b6,0,none⟩) 2 c6::.int .i64 0::u4 1::u 1::U::U::.tuple #[.slice (some ⟨b6,0,none⟩) 2 c6,.int .i64 0]::.slice (some ⟨b1,0,none⟩) 2 2::.tuple #[.slice (some ⟨b6,0,none⟩) 2 c6,.int .i64 0]::.slice (some ⟨b6,0,none⟩) 2 c6::.int .i64 0::u3 0::u3 1::U::U::u4 0::u 0::us 20) K27 bel fun u5 w5 D bel=>?_
 obtain ⟨b28,E5_1,A28,B28⟩:=D.st 2
 have N3_28:=D.n1 1 (lt_of B3) E5_1
 have N26_28:=D.n1 1 (lt_of B26) E5_1
 have N7_28:=D.n1 1 (RatP.lt F7) E5_1
 have N8_28:=D.n1 1 (RatP.lt F8) E5_1
 have N11_28:=D.n1 1 (RatP.lt F11) E5_1
 have N12_28:=D.n1 1 (RatP.lt F12) E5_1
 have N6_28:=D.n1 1 (lt_of B6) E5_1
 replace B3:=D.k B3
 replace B26:=D.k B26
 replace F7:=D.o L7 F7
 replace F8:=D.o L8 F8
 replace F11:=D.o L11 F11
 replace F12:=D.o L12 F12
 replace B6:=D.k B6
 replace F_x9:=D.gr (RatN x.b.re) F_x9
 replace F_x10:=D.gr (RatN x.b.im) F_x10
 replace F_x13:=D.gr (RatN y.b.re) F_x13
 replace F_x14:=D.gr (RatN y.b.im) F_x14
 replace F_x18:=D.gr (RatN ((Cx.ofInt (1:Int) (0:Int)).re)) F_x18
 replace F_x19:=D.gr (RatN ((Cx.ofInt (1:Int) (0:Int)).im)) F_x19
 replace F_x20:=D.gr (RatN 0) F_x20
 replace F_x21:=D.gr (RatN 0) F_x21
 replace F_x22:=D.gr (RatN 0) F_x22
 replace F_x23:=D.gr (RatN 0) F_x23
 replace F_x24:=D.gr (RatN ((Cx.ofInt (1:Int) (0:Int)).re)) F_x24
 replace F_x25:=D.gr (RatN ((Cx.ofInt (1:Int) (0:Int)).im)) F_x25
 clear D
 refine wp_seq_k fun _ K29=>?_
 refine wp_label ?_
 refine K29 _ _ ?_
 refine wp_seq_k fun _ K30=>?_
 refine gs 3 (Amb Z0 W) fun _ K31=>?_
 refine .mz rfl 4 (V:=.slice (some ⟨b6,0,none⟩) 2 c6) rfl ?_
 refine .e rfl (V:=.int .i64 2) (fun H=>x_lens (H.g 21 0)) ?_
 refine .mc rfl ?_
 refine .dk (fun u=>.slice (some ⟨b1,0,none⟩) 2 2::U::u1 0::u1 1::.slice (some ⟨b6,0,none⟩) 2 c6::.int .i64 0::u4 1::u5 1::U::U::.tuple #[.slice (some ⟨b6,0,none⟩) 2 c6,.int .i64 0]::.slice (some ⟨b1,0,none⟩) 2 2::.tuple #[.slice (some ⟨b6,0,none⟩) 2 c6,.int .i64 0]::.slice (some ⟨b6,0,none⟩) 2 c6::.int .i64 0::u3 0::u3 1::U::U::u4 0::u5 0::sq u 0 3 (us 17)) K31 bel fun u6 w6 D bel=>?_
 have E6_0:=D.q 0
 have E6_1:=D.q 1
 have E6_2:=D.q 2
 replace B3:=D.k B3
 replace B26:=D.k B26
 replace B28:=D.k B28
 replace F7:=D.o L7 F7
 replace F8:=D.o L8 F8
 replace F11:=D.o L11 F11
 replace F12:=D.o L12 F12
 replace B6:=D.k B6
 replace F_x9:=D.gr (RatN x.b.re) F_x9
 replace F_x10:=D.gr (RatN x.b.im) F_x10
 replace F_x13:=D.gr (RatN y.b.re) F_x13
 replace F_x14:=D.gr (RatN y.b.im) F_x14
 replace F_x18:=D.gr (RatN ((Cx.ofInt (1:Int) (0:Int)).re)) F_x18
 replace F_x19:=D.gr (RatN ((Cx.ofInt (1:Int) (0:Int)).im)) F_x19
 replace F_x20:=D.gr (RatN 0) F_x20
 replace F_x21:=D.gr (RatN 0) F_x21
 replace F_x22:=D.gr (RatN 0) F_x22
 replace F_x23:=D.gr (RatN 0) F_x23
 replace F_x24:=D.gr (RatN ((Cx.ofInt (1:Int) (0:Int)).re)) F_x24
 replace F_x25:=D.gr (RatN ((Cx.ofInt (1:Int) (0:Int)).im)) F_x25
 clear D
 refine wp_block ?_
 refine wp_loop_rounds 3 ?_
 refine rounds_k fun K32 hK32=>?_
 refine gs 1 (Amb Z0 W) fun _ K33=>?_
 refine .e rfl (V:=.bool true) (fun H=>x_cmp (H.z 23 E6_2) (H.z 22 E6_1)) ?_
 refine .dk (fun u=>.slice (some ⟨b1,0,none⟩) 2 2::U::u1 0::u1 1::.slice (some ⟨b6,0,none⟩) 2 c6::.int .i64 0::u4 1::u5 1::U::U::.tuple #[.slice (some ⟨b6,0,none⟩) 2 c6,.int .i64 0]::.slice (some ⟨b1,0,none⟩) 2 2::.tuple #[.slice (some ⟨b6,0,none⟩) 2 c6,.int .i64 0]::.slice (some ⟨b6,0,none⟩) 2 c6::.int .i64 0::u3 0::u3 1::U::U::u4 0::u5 0::sq u6 0 3 (u 0::us 16)) K33 bel fun u7 w7 D bel=>?_
 have E7_0:=D.q 0
 replace B3:=D.k B3
 replace B26:=D.k B26
 replace B28:=D.k B28
 replace F7:=D.o L7 F7
 replace F8:=D.o L8 F8
 replace F11:=D.o L11 F11
 replace F12:=D.o L12 F12
 replace B6:=D.k B6
 replace F_x9:=D.gr (RatN x.b.re) F_x9
 replace F_x10:=D.gr (RatN x.b.im) F_x10
 replace F_x13:=D.gr (RatN y.b.re) F_x13
 replace F_x14:=D.gr (RatN y.b.im) F_x14
 replace F_x18:=D.gr (RatN ((Cx.ofInt (1:Int) (0:Int)).re)) F_x18
 replace F_x19:=D.gr (RatN ((Cx.ofInt (1:Int) (0:Int)).im)) F_x19
 replace F_x20:=D.gr (RatN 0) F_x20
 replace F_x21:=D.gr (RatN 0) F_x21
 replace F_x22:=D.gr (RatN 0) F_x22
 replace F_x23:=D.gr (RatN 0) F_x23
 replace F_x24:=D.gr (RatN ((Cx.ofInt (1:Int) (0:Int)).re)) F_x24
 replace F_x25:=D.gr (RatN ((Cx.ofInt (1:Int) (0:Int)).im)) F_x25
 clear D
 refine wp_seq_k fun _ K34=>?_
 refine wp_cond_true (by exact E7_0) ?_
 refine wp_skip ?_
 refine K34 _ _ ?_
 refine wp_seq_k fun _ K35=>?_
 refine wp_block ?_
 refine gs 4 (Amb Z0 W) fun _ K36=>?_
 refine .e rfl (V:=pt b6) (fun H=>x_ixs 4 (H.z 21 E6_0) (H.z 23 E6_2)) ?_
 refine .e rfl (V:=.agg #[pt b7,x9,x10,pt b8]) (fun H=>x_ldq (vs:=[pt b7,x9,x10,pt b8,pt b11,x13,x14,pt b12]) (us:=[pt b7,x9,x10,pt b8]) (H.g 25 0) (H.b B6) Q6) ?_
 refine .al rfl (#[.pointer none,.pointer none,.pointer none,.pointer none]) ?_
 refine Go2.storeOwn (i:=3) (m:=2) rfl rfl (.head _) (SP.cells 2 [] (fun u=>#[pt b7,x9,x10,pt b8]) 203 (by intro u u' h; simp [])) (fun u μ ρ b H h0 hB hb=>?_) ?_
 · have e9:=H.r 9 2; have e26:=H.g 26 1; have o_x9:=VP1.ratn F_x9; have o_x10:=VP1.ratn F_x10
   rw [h0] at e9
   refine ⟨μ.setRow b #[pt b7,x9,x10,pt b8],ex_store_row 203 _ _ rfl e9 e26 hb (by kernel_rfl) rfl (by simp [o_x9,o_x10,ptr1] <;> rfl),fun g=>⟨b,?_,hB,?_⟩,setRow_only _ _ _⟩
   · rw [upd_other _ _ (by decide)]; exact h0
   · rw [setRow_at hb]; try simp [upd]
 refine .dk (fun u=>.slice (some ⟨b1,0,none⟩) 2 2::U::u1 0::u1 1::.slice (some ⟨b6,0,none⟩) 2 c6::.int .i64 0::u4 1::u5 1::U::u 2::.tuple #[.slice (some ⟨b6,0,none⟩) 2 c6,.int .i64 0]::.slice (some ⟨b1,0,none⟩) 2 2::.tuple #[.slice (some ⟨b6,0,none⟩) 2 c6,.int .i64 0]::.slice (some ⟨b6,0,none⟩) 2 c6::.int .i64 0::u3 0::u3 1::U::U::u4 0::u5 0::sq u6 0 3 (u7 0::u 0::u 1::us 14)) K36 bel fun u8 w8 D bel=>?_
 obtain ⟨b37,E8_2,A37,B37⟩:=D.st 3
 have E8_0:=D.q 0
 have E8_1:=D.q 1
 have N3_37:=D.n1 2 (lt_of B3) E8_2
 have N26_37:=D.n1 2 (lt_of B26) E8_2
 have N28_37:=D.n1 2 (lt_of B28) E8_2
 have N7_37:=D.n1 2 (RatP.lt F7) E8_2
 have N8_37:=D.n1 2 (RatP.lt F8) E8_2
 have N11_37:=D.n1 2 (RatP.lt F11) E8_2
 have N12_37:=D.n1 2 (RatP.lt F12) E8_2
 have N6_37:=D.n1 2 (lt_of B6) E8_2
 replace B3:=D.k B3
 replace B26:=D.k B26
 replace B28:=D.k B28
 replace F7:=D.o L7 F7
 replace F8:=D.o L8 F8
 replace F11:=D.o L11 F11
 replace F12:=D.o L12 F12
 replace B6:=D.k B6
 replace F_x9:=D.gr (RatN x.b.re) F_x9
 replace F_x10:=D.gr (RatN x.b.im) F_x10
 replace F_x13:=D.gr (RatN y.b.re) F_x13
 replace F_x14:=D.gr (RatN y.b.im) F_x14
 replace F_x18:=D.gr (RatN ((Cx.ofInt (1:Int) (0:Int)).re)) F_x18
 replace F_x19:=D.gr (RatN ((Cx.ofInt (1:Int) (0:Int)).im)) F_x19
 replace F_x20:=D.gr (RatN 0) F_x20
 replace F_x21:=D.gr (RatN 0) F_x21
 replace F_x22:=D.gr (RatN 0) F_x22
 replace F_x23:=D.gr (RatN 0) F_x23
 replace F_x24:=D.gr (RatN ((Cx.ofInt (1:Int) (0:Int)).re)) F_x24
 replace F_x25:=D.gr (RatN ((Cx.ofInt (1:Int) (0:Int)).im)) F_x25
 clear D
 refine gd1 5 (Amb Z0 W) 4 B26 fun _ K38=>?_
 refine .e rfl (fun H=>x_ldr (H.z 9 E8_2) (H.b1 B37 N26_37)) ?_
 refine .cR rfl [] Tryz.func143 (fun H=>⟨_,ar1 (H.g 27 0),iOver x (RingP.mk (H.was _ [] (VP.at F7 L7)) (H.was _ [] F_x9) (H.was _ [] F_x10) (H.was _ [] (VP.at F8 L8))) (by first | assumption | omega)⟩) ?_
 refine .e rfl (fun H=>x_ldr (H.z 6 E4_1) (H.bo B26 0 4)) ?_
 refine .cR rfl [1] Tryz.func184 (fun H=>⟨_,ar2 (H.r 28 1) (H.g 29 2),mtBehind x.over (Mb.mk (Cx.ofInt (1:Int) (0:Int)) ⟨0,0⟩ ⟨0,0⟩ (Cx.ofInt (1:Int) (0:Int)) false) (SV.sub [1] (H.a 1 rfl) rfl) (MatP.mk (H.was _ [1] F_x18) (H.was _ [1] F_x19) (H.was _ [1] F_x20) (H.was _ [1] F_x21) (H.was _ [1] F_x22) (H.was _ [1] F_x23) (H.was _ [1] F_x24) (H.was _ [1] F_x25)) (by first | assumption | omega) (by first | assumption | omega)⟩) ?_
 refine Go2.storeOld (i:=4) 0 b26 rfl rfl rfl ⟨_,_,_,B26,rfl⟩ (SP.old 0 b26 [3] (fun u=>#[((u 3).v.cells.getD 0 undef),((u 3).v.cells.getD 1 undef),((u 3).v.cells.getD 2 undef),((u 3).v.cells.getD 3 undef),((u 3).v.cells.getD 4 undef),((u 3).v.cells.getD 5 undef),((u 3).v.cells.getD 6 undef),((u 3).v.cells.getD 7 undef),.bool ((x.over.behind (Mb.mk (Cx.ofInt (1:Int) (0:Int)) ⟨0,0⟩ ⟨0,0⟩ (Cx.ofInt (1:Int) (0:Int)) false)).t)]) 198 (by intro u u' h; simp [h 3 (by simp)]) (lt_of B26) (by intro y k hy; match y,hy with | 0,hy=>rfl)) (fun u μ ρ H=>?_) ?_
 · have e6:=H.z 6 E4_1; have e30:=H.r 30 3; have hb:=H.blkOld B26 0 4 rfl (.inl rfl)
   obtain ⟨x1,x2,x3,x4,x5,x6,x7,x8,h1,h2,h3,h4,h5,h6,h7,h8,h9⟩:=(H.a 3 rfl)
   have o1:=VP1.ratn h2
   have o2:=VP1.ratn h3
   have o3:=VP1.ratn h4
   have o4:=VP1.ratn h5
   have o5:=VP1.ratn h6
   have o6:=VP1.ratn h7
   have o7:=VP1.ratn h8
   have o8:=VP1.ratn h9
   rw [h1] at e30
   refine ⟨μ.setRow b26 #[x1,x2,x3,x4,x5,x6,x7,x8,.bool ((x.over.behind (Mb.mk (Cx.ofInt (1:Int) (0:Int)) ⟨0,0⟩ ⟨0,0⟩ (Cx.ofInt (1:Int) (0:Int)) false)).t)],ex_store_row 198 _ _ rfl e6 e30 hb (by kernel_rfl) rfl (by simp [o1,o2,o3,o4,o5,o6,o7,o8] <;> rfl),fun g=>?_,setRow_only _ _ _⟩
   show (World.setRow _ _ _).heap[b26]? = _
   rw [setRow_at hb]; try simp [upd,h1,Value.cells]
 refine .d1 (fun u=>.slice (some ⟨b1,0,none⟩) 2 2::U::u1 0::u1 1::.slice (some ⟨b6,0,none⟩) 2 c6::.int .i64 0::u4 1::u5 1::U::u8 2::.tuple #[.slice (some ⟨b6,0,none⟩) 2 c6,.int .i64 0]::.slice (some ⟨b1,0,none⟩) 2 2::.tuple #[.slice (some ⟨b6,0,none⟩) 2 c6,.int .i64 0]::.slice (some ⟨b6,0,none⟩) 2 c6::.int .i64 0::u3 0::u3 1::U::U::u4 0::u5 0::sq u6 0 3 (u7 0::u8 0::u8 1::sq u 0 4 (us 10))) K38 bel A26 fun u9 w9 D bel=>?_
 obtain ⟨x39,x40,x41,x42,x43,x44,x45,x46,E9_1,F_x39,F_x40,F_x41,F_x42,F_x43,F_x44,F_x45,F_x46⟩:=(D.rr 1)
 obtain ⟨x47,x48,x49,x50,x51,x52,x53,x54,E9_3,F_x47,F_x48,F_x49,F_x50,F_x51,F_x52,F_x53,F_x54⟩:=(D.rr 3)
 have E9_0:=D.q 0
 have E9_2:=D.q 2
 replace B3:=D.k1 B3 (Ne.symm N3_26)
 replace B26:w9.heap[b26]? = _:=(D.a 4 rfl)
 simp only [Value.cells,E9_1,E9_3] at B26
 replace B28:=D.k1 B28 N26_28
 replace B37:=D.k1 B37 N26_37
 replace F7:=D.o L7 F7
 replace F8:=D.o L8 F8
 replace F11:=D.o L11 F11
 replace F12:=D.o L12 F12
 replace B6:=D.kk B6 (no_cons (Ne.symm N6_26) (no_nil _))
 replace F_x9:=D.gr (RatN x.b.re) F_x9
 replace F_x10:=D.gr (RatN x.b.im) F_x10
 replace F_x13:=D.gr (RatN y.b.re) F_x13
 replace F_x14:=D.gr (RatN y.b.im) F_x14
 replace F_x18:=D.gr (RatN ((Cx.ofInt (1:Int) (0:Int)).re)) F_x18
 replace F_x19:=D.gr (RatN ((Cx.ofInt (1:Int) (0:Int)).im)) F_x19
 replace F_x20:=D.gr (RatN 0) F_x20
 replace F_x21:=D.gr (RatN 0) F_x21
 replace F_x22:=D.gr (RatN 0) F_x22
 replace F_x23:=D.gr (RatN 0) F_x23
 replace F_x24:=D.gr (RatN ((Cx.ofInt (1:Int) (0:Int)).re)) F_x24
 replace F_x25:=D.gr (RatN ((Cx.ofInt (1:Int) (0:Int)).im)) F_x25
 clear D
 refine gs1 7 (Amb Z0 W) 5 B28 fun _ K55=>?_
 refine .e rfl (fun H=>x_ldr (H.z 6 E4_1) (H.b1 B26 (Ne.symm N26_28))) ?_
 refine .cK rfl Tryz.func145 (fun H=>⟨_,ar1 (H.g 32 0),mtTold (x.over.behind (Mb.mk (Cx.ofInt (1:Int) (0:Int)) ⟨0,0⟩ ⟨0,0⟩ (Cx.ofInt (1:Int) (0:Int)) false)) (MatP.mk (VP.any _ (H.was _ [] F_x47)) (VP.any _ (H.was _ [] F_x48)) (VP.any _ (H.was _ [] F_x49)) (VP.any _ (H.was _ [] F_x50)) (VP.any _ (H.was _ [] F_x51)) (VP.any _ (H.was _ [] F_x52)) (VP.any _ (H.was _ [] F_x53)) (VP.any _ (H.was _ [] F_x54))) (by first | assumption | omega) (by first | assumption | omega)⟩) ?_
 refine .mv rfl 1 ?_
 refine .e rfl (V:=rmbV (mbcut (x.over.behind (Mb.mk (Cx.ofInt (1:Int) (0:Int)) ⟨0,0⟩ ⟨0,0⟩ (Cx.ofInt (1:Int) (0:Int)) false)).nrm)) (fun H=>x_ex (H.g 31 2)) ?_
 refine .e rfl (V:=.int .i64 (mberr (x.over.behind (Mb.mk (Cx.ofInt (1:Int) (0:Int)) ⟨0,0⟩ ⟨0,0⟩ (Cx.ofInt (1:Int) (0:Int)) false)).nrm)) (fun H=>x_ex (H.g 31 2)) ?_
 refine .s1 rfl B28 (fun H=>⟨H.z 7 E5_1,H.g 34 3⟩) ?_
 refine .mv rfl 4 ?_
 refine .d1 (fun u=>.slice (some ⟨b1,0,none⟩) 2 2::U::u1 0::u1 1::.slice (some ⟨b6,0,none⟩) 2 c6::u 6::u4 1::u5 1::U::u8 2::.tuple #[.slice (some ⟨b6,0,none⟩) 2 c6,.int .i64 0]::.slice (some ⟨b1,0,none⟩) 2 2::.tuple #[.slice (some ⟨b6,0,none⟩) 2 c6,.int .i64 0]::.slice (some ⟨b6,0,none⟩) 2 c6::.int .i64 0::u3 0::u3 1::U::U::u4 0::u5 0::sq u6 0 3 (u7 0::u8 0::u8 1::sq u9 0 4 (u 2::u 0::u 1::u 3::u 4::us 5))) K55 bel A28 fun u10 w10 D bel=>?_
 have E10_0:=D.q 0
 have E10_1:=D.q 1
 have E10_2:=D.q 2
 have E10_3:=D.q 3
 have E10_4:=D.q 4
 have E10_6:=D.q 6
 replace B3:=D.k1 B3 (Ne.symm N3_28)
 replace B26:=D.k1 B26 (Ne.symm N26_28)
 replace B28:=D.ol 5
 replace B37:=D.k1 B37 N28_37
 replace F7:=D.o L7 F7
 replace F8:=D.o L8 F8
 replace F11:=D.o L11 F11
 replace F12:=D.o L12 F12
 replace B6:=D.kk B6 (no_cons (Ne.symm N6_28) (no_nil _))
 replace F_x9:=D.gr (RatN x.b.re) F_x9
 replace F_x10:=D.gr (RatN x.b.im) F_x10
 replace F_x13:=D.gr (RatN y.b.re) F_x13
 replace F_x14:=D.gr (RatN y.b.im) F_x14
 replace F_x18:=D.gr (RatN ((Cx.ofInt (1:Int) (0:Int)).re)) F_x18
 replace F_x19:=D.gr (RatN ((Cx.ofInt (1:Int) (0:Int)).im)) F_x19
 replace F_x20:=D.gr (RatN 0) F_x20
 replace F_x21:=D.gr (RatN 0) F_x21
 replace F_x22:=D.gr (RatN 0) F_x22
 replace F_x23:=D.gr (RatN 0) F_x23
 replace F_x24:=D.gr (RatN ((Cx.ofInt (1:Int) (0:Int)).re)) F_x24
 replace F_x25:=D.gr (RatN ((Cx.ofInt (1:Int) (0:Int)).im)) F_x25
 replace F_x39:=D.gr (RatN x.over.a.re) F_x39
 replace F_x40:=D.gr (RatN x.over.a.im) F_x40
 replace F_x41:=D.gr (RatN x.over.b.re) F_x41
 replace F_x42:=D.gr (RatN x.over.b.im) F_x42
 replace F_x43:=D.gr (RatN x.over.c.re) F_x43
 replace F_x44:=D.gr (RatN x.over.c.im) F_x44
 replace F_x45:=D.gr (RatN x.over.d.re) F_x45
 replace F_x46:=D.gr (RatN x.over.d.im) F_x46
 replace F_x47:=D.gr (RatN (((x.over.behind (Mb.mk (Cx.ofInt (1:Int) (0:Int)) ⟨0,0⟩ ⟨0,0⟩ (Cx.ofInt (1:Int) (0:Int)) false)).a).re)) F_x47
 replace F_x48:=D.gr (RatN (((x.over.behind (Mb.mk (Cx.ofInt (1:Int) (0:Int)) ⟨0,0⟩ ⟨0,0⟩ (Cx.ofInt (1:Int) (0:Int)) false)).a).im)) F_x48
 replace F_x49:=D.gr (RatN (((x.over.behind (Mb.mk (Cx.ofInt (1:Int) (0:Int)) ⟨0,0⟩ ⟨0,0⟩ (Cx.ofInt (1:Int) (0:Int)) false)).b).re)) F_x49
 replace F_x50:=D.gr (RatN (((x.over.behind (Mb.mk (Cx.ofInt (1:Int) (0:Int)) ⟨0,0⟩ ⟨0,0⟩ (Cx.ofInt (1:Int) (0:Int)) false)).b).im)) F_x50
 replace F_x51:=D.gr (RatN (((x.over.behind (Mb.mk (Cx.ofInt (1:Int) (0:Int)) ⟨0,0⟩ ⟨0,0⟩ (Cx.ofInt (1:Int) (0:Int)) false)).c).re)) F_x51
 replace F_x52:=D.gr (RatN (((x.over.behind (Mb.mk (Cx.ofInt (1:Int) (0:Int)) ⟨0,0⟩ ⟨0,0⟩ (Cx.ofInt (1:Int) (0:Int)) false)).c).im)) F_x52
 replace F_x53:=D.gr (RatN (((x.over.behind (Mb.mk (Cx.ofInt (1:Int) (0:Int)) ⟨0,0⟩ ⟨0,0⟩ (Cx.ofInt (1:Int) (0:Int)) false)).d).re)) F_x53
 replace F_x54:=D.gr (RatN (((x.over.behind (Mb.mk (Cx.ofInt (1:Int) (0:Int)) ⟨0,0⟩ ⟨0,0⟩ (Cx.ofInt (1:Int) (0:Int)) false)).d).im)) F_x54
 clear D
 refine gs 2 (Amb Z0 W) fun _ K56=>?_
 refine .mz rfl 5 E10_6 ?_
 refine .e rfl (V:=.bool false) (fun H=>x_cm (H.g 36 0) (H.c _) (err_0 p2)) ?_
 refine .dk (fun u=>.slice (some ⟨b1,0,none⟩) 2 2::U::u1 0::u1 1::.slice (some ⟨b6,0,none⟩) 2 c6::u10 6::u4 1::u5 1::U::u8 2::.tuple #[.slice (some ⟨b6,0,none⟩) 2 c6,.int .i64 0]::.slice (some ⟨b1,0,none⟩) 2 2::.tuple #[.slice (some ⟨b6,0,none⟩) 2 c6,.int .i64 0]::.slice (some ⟨b6,0,none⟩) 2 c6::.int .i64 0::u3 0::u3 1::U::U::u4 0::u5 0::sq u6 0 3 (u7 0::u8 0::u8 1::sq u9 0 4 (u10 2::u10 0::u10 1::u10 3::u10 4::u 0::u 1::us 3))) K56 bel fun u11 w11 D bel=>?_
 have E11_0:=D.q 0
 have E11_1:=D.q 1
 replace B3:=D.k B3
 replace B26:=D.k B26
 replace B28:=D.k B28
 replace B37:=D.k B37
 replace F7:=D.o L7 F7
 replace F8:=D.o L8 F8
 replace F11:=D.o L11 F11
 replace F12:=D.o L12 F12
 replace B6:=D.k B6
 replace F_x9:=D.gr (RatN x.b.re) F_x9
 replace F_x10:=D.gr (RatN x.b.im) F_x10
 replace F_x13:=D.gr (RatN y.b.re) F_x13
 replace F_x14:=D.gr (RatN y.b.im) F_x14
 replace F_x18:=D.gr (RatN ((Cx.ofInt (1:Int) (0:Int)).re)) F_x18
 replace F_x19:=D.gr (RatN ((Cx.ofInt (1:Int) (0:Int)).im)) F_x19
 replace F_x20:=D.gr (RatN 0) F_x20
 replace F_x21:=D.gr (RatN 0) F_x21
 replace F_x22:=D.gr (RatN 0) F_x22
 replace F_x23:=D.gr (RatN 0) F_x23
 replace F_x24:=D.gr (RatN ((Cx.ofInt (1:Int) (0:Int)).re)) F_x24
 replace F_x25:=D.gr (RatN ((Cx.ofInt (1:Int) (0:Int)).im)) F_x25
 replace F_x39:=D.gr (RatN x.over.a.re) F_x39
 replace F_x40:=D.gr (RatN x.over.a.im) F_x40
 replace F_x41:=D.gr (RatN x.over.b.re) F_x41
 replace F_x42:=D.gr (RatN x.over.b.im) F_x42
 replace F_x43:=D.gr (RatN x.over.c.re) F_x43
 replace F_x44:=D.gr (RatN x.over.c.im) F_x44
 replace F_x45:=D.gr (RatN x.over.d.re) F_x45
 replace F_x46:=D.gr (RatN x.over.d.im) F_x46
 replace F_x47:=D.gr (RatN (((x.over.behind (Mb.mk (Cx.ofInt (1:Int) (0:Int)) ⟨0,0⟩ ⟨0,0⟩ (Cx.ofInt (1:Int) (0:Int)) false)).a).re)) F_x47
 replace F_x48:=D.gr (RatN (((x.over.behind (Mb.mk (Cx.ofInt (1:Int) (0:Int)) ⟨0,0⟩ ⟨0,0⟩ (Cx.ofInt (1:Int) (0:Int)) false)).a).im)) F_x48
 replace F_x49:=D.gr (RatN (((x.over.behind (Mb.mk (Cx.ofInt (1:Int) (0:Int)) ⟨0,0⟩ ⟨0,0⟩ (Cx.ofInt (1:Int) (0:Int)) false)).b).re)) F_x49
 replace F_x50:=D.gr (RatN (((x.over.behind (Mb.mk (Cx.ofInt (1:Int) (0:Int)) ⟨0,0⟩ ⟨0,0⟩ (Cx.ofInt (1:Int) (0:Int)) false)).b).im)) F_x50
 replace F_x51:=D.gr (RatN (((x.over.behind (Mb.mk (Cx.ofInt (1:Int) (0:Int)) ⟨0,0⟩ ⟨0,0⟩ (Cx.ofInt (1:Int) (0:Int)) false)).c).re)) F_x51
 replace F_x52:=D.gr (RatN (((x.over.behind (Mb.mk (Cx.ofInt (1:Int) (0:Int)) ⟨0,0⟩ ⟨0,0⟩ (Cx.ofInt (1:Int) (0:Int)) false)).c).im)) F_x52
 replace F_x53:=D.gr (RatN (((x.over.behind (Mb.mk (Cx.ofInt (1:Int) (0:Int)) ⟨0,0⟩ ⟨0,0⟩ (Cx.ofInt (1:Int) (0:Int)) false)).d).re)) F_x53
 replace F_x54:=D.gr (RatN (((x.over.behind (Mb.mk (Cx.ofInt (1:Int) (0:Int)) ⟨0,0⟩ ⟨0,0⟩ (Cx.ofInt (1:Int) (0:Int)) false)).d).im)) F_x54
 clear D
 refine wp_cond_false (by exact E11_1) ?_
 refine wp_skip ?_
 refine inBlock_normal ?_
 refine K35 _ _ ?_
 refine wp_region_list ?_
 refine wpT_val (v:=.int .i64 1) rfl (by have aw_:IntKind.wrap .i64 1 = 1:=(by decide); have:=E6_2; go_simp) ?_
 refine wpList_as (fr (.slice (some ⟨b1,0,none⟩) 2 2::U::u1 0::u1 1::.slice (some ⟨b6,0,none⟩) 2 c6::u10 6::u4 1::u5 1::U::u8 2::.tuple #[.slice (some ⟨b6,0,none⟩) 2 c6,.int .i64 0]::.slice (some ⟨b1,0,none⟩) 2 2::.tuple #[.slice (some ⟨b6,0,none⟩) 2 c6,.int .i64 0]::.slice (some ⟨b6,0,none⟩) 2 c6::.int .i64 0::u3 0::u3 1::U::U::u4 0::u5 0::sq u6 0 3 (u7 0::u8 0::u8 1::sq u9 0 4 (u10 2::u10 0::u10 1::u10 3::u10 4::u11 0::u11 1::.int .i64 1::U::U::[])))) (by kernel_rfl) ?_
 refine wpT_val rfl (ex_move rfl) ?_
 refine wpList_as (fr (.slice (some ⟨b1,0,none⟩) 2 2::U::u1 0::u1 1::.slice (some ⟨b6,0,none⟩) 2 c6::u10 6::u4 1::u5 1::U::u8 2::.tuple #[.slice (some ⟨b6,0,none⟩) 2 c6,.int .i64 0]::.slice (some ⟨b1,0,none⟩) 2 2::.tuple #[.slice (some ⟨b6,0,none⟩) 2 c6,.int .i64 0]::.slice (some ⟨b6,0,none⟩) 2 c6::.int .i64 0::u3 0::u3 1::U::U::u4 0::u5 0::u6 0::u6 1::.int .i64 1::u7 0::u8 0::u8 1::sq u9 0 4 (u10 2::u10 0::u10 1::u10 3::u10 4::u11 0::u11 1::.int .i64 1::U::U::[]))) (by kernel_rfl) ?_
 refine wpList_nil ?_
 show _
 refine hK32 _ _ ?_
 refine rounds_k fun K57 hK57=>?_
 refine gs 1 (Amb Z0 W) fun _ K58=>?_
 refine .e rfl (V:=.bool true) (fun H=>x_cmp (H.v 23 (.int .i64 1)) (H.z 22 E6_1)) ?_
 refine .dk (fun u=>.slice (some ⟨b1,0,none⟩) 2 2::U::u1 0::u1 1::.slice (some ⟨b6,0,none⟩) 2 c6::u10 6::u4 1::u5 1::U::u8 2::.tuple #[.slice (some ⟨b6,0,none⟩) 2 c6,.int .i64 0]::.slice (some ⟨b1,0,none⟩) 2 2::.tuple #[.slice (some ⟨b6,0,none⟩) 2 c6,.int .i64 0]::.slice (some ⟨b6,0,none⟩) 2 c6::.int .i64 0::u3 0::u3 1::U::U::u4 0::u5 0::u6 0::u6 1::.int .i64 1::u 0::u8 0::u8 1::sq u9 0 4 (u10 2::u10 0::u10 1::u10 3::u10 4::u11 0::u11 1::.int .i64 1::U::U::[])) K58 bel fun u13 w13 D bel=>?_
 have E13_0:=D.q 0
 replace B3:=D.k B3
 replace B26:=D.k B26
 replace B28:=D.k B28
 replace B37:=D.k B37
 replace F7:=D.o L7 F7
 replace F8:=D.o L8 F8
 replace F11:=D.o L11 F11
 replace F12:=D.o L12 F12
 replace B6:=D.k B6
 replace F_x9:=D.gr (RatN x.b.re) F_x9
 replace F_x10:=D.gr (RatN x.b.im) F_x10
 replace F_x13:=D.gr (RatN y.b.re) F_x13
 replace F_x14:=D.gr (RatN y.b.im) F_x14
 replace F_x18:=D.gr (RatN ((Cx.ofInt (1:Int) (0:Int)).re)) F_x18
 replace F_x19:=D.gr (RatN ((Cx.ofInt (1:Int) (0:Int)).im)) F_x19
 replace F_x20:=D.gr (RatN 0) F_x20
 replace F_x21:=D.gr (RatN 0) F_x21
 replace F_x22:=D.gr (RatN 0) F_x22
 replace F_x23:=D.gr (RatN 0) F_x23
 replace F_x24:=D.gr (RatN ((Cx.ofInt (1:Int) (0:Int)).re)) F_x24
 replace F_x25:=D.gr (RatN ((Cx.ofInt (1:Int) (0:Int)).im)) F_x25
 replace F_x39:=D.gr (RatN x.over.a.re) F_x39
 replace F_x40:=D.gr (RatN x.over.a.im) F_x40
 replace F_x41:=D.gr (RatN x.over.b.re) F_x41
 replace F_x42:=D.gr (RatN x.over.b.im) F_x42
 replace F_x43:=D.gr (RatN x.over.c.re) F_x43
 replace F_x44:=D.gr (RatN x.over.c.im) F_x44
 replace F_x45:=D.gr (RatN x.over.d.re) F_x45
 replace F_x46:=D.gr (RatN x.over.d.im) F_x46
 replace F_x47:=D.gr (RatN (((x.over.behind (Mb.mk (Cx.ofInt (1:Int) (0:Int)) ⟨0,0⟩ ⟨0,0⟩ (Cx.ofInt (1:Int) (0:Int)) false)).a).re)) F_x47
 replace F_x48:=D.gr (RatN (((x.over.behind (Mb.mk (Cx.ofInt (1:Int) (0:Int)) ⟨0,0⟩ ⟨0,0⟩ (Cx.ofInt (1:Int) (0:Int)) false)).a).im)) F_x48
 replace F_x49:=D.gr (RatN (((x.over.behind (Mb.mk (Cx.ofInt (1:Int) (0:Int)) ⟨0,0⟩ ⟨0,0⟩ (Cx.ofInt (1:Int) (0:Int)) false)).b).re)) F_x49
 replace F_x50:=D.gr (RatN (((x.over.behind (Mb.mk (Cx.ofInt (1:Int) (0:Int)) ⟨0,0⟩ ⟨0,0⟩ (Cx.ofInt (1:Int) (0:Int)) false)).b).im)) F_x50
 replace F_x51:=D.gr (RatN (((x.over.behind (Mb.mk (Cx.ofInt (1:Int) (0:Int)) ⟨0,0⟩ ⟨0,0⟩ (Cx.ofInt (1:Int) (0:Int)) false)).c).re)) F_x51
 replace F_x52:=D.gr (RatN (((x.over.behind (Mb.mk (Cx.ofInt (1:Int) (0:Int)) ⟨0,0⟩ ⟨0,0⟩ (Cx.ofInt (1:Int) (0:Int)) false)).c).im)) F_x52
 replace F_x53:=D.gr (RatN (((x.over.behind (Mb.mk (Cx.ofInt (1:Int) (0:Int)) ⟨0,0⟩ ⟨0,0⟩ (Cx.ofInt (1:Int) (0:Int)) false)).d).re)) F_x53
 replace F_x54:=D.gr (RatN (((x.over.behind (Mb.mk (Cx.ofInt (1:Int) (0:Int)) ⟨0,0⟩ ⟨0,0⟩ (Cx.ofInt (1:Int) (0:Int)) false)).d).im)) F_x54
 clear D
 refine wp_seq_k fun _ K59=>?_
 refine wp_cond_true (by exact E13_0) ?_
 refine wp_skip ?_
 refine K59 _ _ ?_
 refine wp_seq_k fun _ K60=>?_
 refine wp_block ?_
 refine gs 4 (Amb Z0 W) fun _ K61=>?_
 refine .e rfl (V:=.pointer (some ⟨b6,4,none⟩)) (fun H=>x_ixs 4 (H.z 21 E6_0) (H.v 23 (.int .i64 1))) ?_
 refine .e rfl (V:=.agg #[pt b11,x13,x14,pt b12]) (fun H=>x_ldq (vs:=[pt b7,x9,x10,pt b8,pt b11,x13,x14,pt b12]) (us:=[pt b11,x13,x14,pt b12]) (H.g 25 0) (H.b B6) Q6) ?_
 refine .al rfl (#[.pointer none,.pointer none,.pointer none,.pointer none]) ?_
 refine Go2.storeOwn (i:=3) (m:=2) rfl rfl (.head _) (SP.cells 2 [] (fun u=>#[pt b11,x13,x14,pt b12]) 203 (by intro u u' h; simp [])) (fun u μ ρ b H h0 hB hb=>?_) ?_
 · have e9:=H.r 9 2; have e26:=H.g 26 1; have o_x13:=VP1.ratn F_x13; have o_x14:=VP1.ratn F_x14
   rw [h0] at e9
   refine ⟨μ.setRow b #[pt b11,x13,x14,pt b12],ex_store_row 203 _ _ rfl e9 e26 hb (by kernel_rfl) rfl (by simp [o_x13,o_x14,ptr1] <;> rfl),fun g=>⟨b,?_,hB,?_⟩,setRow_only _ _ _⟩
   · rw [upd_other _ _ (by decide)]; exact h0
   · rw [setRow_at hb]; try simp [upd]
 refine .dk (fun u=>.slice (some ⟨b1,0,none⟩) 2 2::U::u1 0::u1 1::.slice (some ⟨b6,0,none⟩) 2 c6::u10 6::u4 1::u5 1::U::u 2::.tuple #[.slice (some ⟨b6,0,none⟩) 2 c6,.int .i64 0]::.slice (some ⟨b1,0,none⟩) 2 2::.tuple #[.slice (some ⟨b6,0,none⟩) 2 c6,.int .i64 0]::.slice (some ⟨b6,0,none⟩) 2 c6::.int .i64 0::u3 0::u3 1::U::U::u4 0::u5 0::u6 0::u6 1::.int .i64 1::u13 0::u 0::u 1::sq u9 0 4 (u10 2::u10 0::u10 1::u10 3::u10 4::u11 0::u11 1::.int .i64 1::U::U::[])) K61 bel fun u14 w14 D bel=>?_
 obtain ⟨b62,E14_2,A62,B62⟩:=D.st 3
 have E14_0:=D.q 0
 have E14_1:=D.q 1
 have N3_62:=D.n1 2 (lt_of B3) E14_2
 have N26_62:=D.n1 2 (lt_of B26) E14_2
 have N28_62:=D.n1 2 (lt_of B28) E14_2
 have N37_62:=D.n1 2 (lt_of B37) E14_2
 have N7_62:=D.n1 2 (RatP.lt F7) E14_2
 have N8_62:=D.n1 2 (RatP.lt F8) E14_2
 have N11_62:=D.n1 2 (RatP.lt F11) E14_2
 have N12_62:=D.n1 2 (RatP.lt F12) E14_2
 have N6_62:=D.n1 2 (lt_of B6) E14_2
 replace B3:=D.k B3
 replace B26:=D.k B26
 replace B28:=D.k B28
 replace F7:=D.o L7 F7
 replace F8:=D.o L8 F8
 replace F11:=D.o L11 F11
 replace F12:=D.o L12 F12
 replace B6:=D.k B6
 replace F_x9:=D.gr (RatN x.b.re) F_x9
 replace F_x10:=D.gr (RatN x.b.im) F_x10
 replace F_x13:=D.gr (RatN y.b.re) F_x13
 replace F_x14:=D.gr (RatN y.b.im) F_x14
 replace F_x18:=D.gr (RatN ((Cx.ofInt (1:Int) (0:Int)).re)) F_x18
 replace F_x19:=D.gr (RatN ((Cx.ofInt (1:Int) (0:Int)).im)) F_x19
 replace F_x20:=D.gr (RatN 0) F_x20
 replace F_x21:=D.gr (RatN 0) F_x21
 replace F_x22:=D.gr (RatN 0) F_x22
 replace F_x23:=D.gr (RatN 0) F_x23
 replace F_x24:=D.gr (RatN ((Cx.ofInt (1:Int) (0:Int)).re)) F_x24
 replace F_x25:=D.gr (RatN ((Cx.ofInt (1:Int) (0:Int)).im)) F_x25
 replace F_x39:=D.gr (RatN x.over.a.re) F_x39
 replace F_x40:=D.gr (RatN x.over.a.im) F_x40
 replace F_x41:=D.gr (RatN x.over.b.re) F_x41
 replace F_x42:=D.gr (RatN x.over.b.im) F_x42
 replace F_x43:=D.gr (RatN x.over.c.re) F_x43
 replace F_x44:=D.gr (RatN x.over.c.im) F_x44
 replace F_x45:=D.gr (RatN x.over.d.re) F_x45
 replace F_x46:=D.gr (RatN x.over.d.im) F_x46
 replace F_x47:=D.gr (RatN (((x.over.behind (Mb.mk (Cx.ofInt (1:Int) (0:Int)) ⟨0,0⟩ ⟨0,0⟩ (Cx.ofInt (1:Int) (0:Int)) false)).a).re)) F_x47
 replace F_x48:=D.gr (RatN (((x.over.behind (Mb.mk (Cx.ofInt (1:Int) (0:Int)) ⟨0,0⟩ ⟨0,0⟩ (Cx.ofInt (1:Int) (0:Int)) false)).a).im)) F_x48
 replace F_x49:=D.gr (RatN (((x.over.behind (Mb.mk (Cx.ofInt (1:Int) (0:Int)) ⟨0,0⟩ ⟨0,0⟩ (Cx.ofInt (1:Int) (0:Int)) false)).b).re)) F_x49
 replace F_x50:=D.gr (RatN (((x.over.behind (Mb.mk (Cx.ofInt (1:Int) (0:Int)) ⟨0,0⟩ ⟨0,0⟩ (Cx.ofInt (1:Int) (0:Int)) false)).b).im)) F_x50
 replace F_x51:=D.gr (RatN (((x.over.behind (Mb.mk (Cx.ofInt (1:Int) (0:Int)) ⟨0,0⟩ ⟨0,0⟩ (Cx.ofInt (1:Int) (0:Int)) false)).c).re)) F_x51
 replace F_x52:=D.gr (RatN (((x.over.behind (Mb.mk (Cx.ofInt (1:Int) (0:Int)) ⟨0,0⟩ ⟨0,0⟩ (Cx.ofInt (1:Int) (0:Int)) false)).c).im)) F_x52
 replace F_x53:=D.gr (RatN (((x.over.behind (Mb.mk (Cx.ofInt (1:Int) (0:Int)) ⟨0,0⟩ ⟨0,0⟩ (Cx.ofInt (1:Int) (0:Int)) false)).d).re)) F_x53
 replace F_x54:=D.gr (RatN (((x.over.behind (Mb.mk (Cx.ofInt (1:Int) (0:Int)) ⟨0,0⟩ ⟨0,0⟩ (Cx.ofInt (1:Int) (0:Int)) false)).d).im)) F_x54
 clear D
 refine gd1 5 (Amb Z0 W) 4 B26 fun _ K63=>?_
 refine .e rfl (fun H=>x_ldr (H.z 9 E14_2) (H.b1 B62 N26_62)) ?_
 refine .cR rfl [] Tryz.func143 (fun H=>⟨_,ar1 (H.g 27 0),iOver y (RingP.mk (H.was _ [] (VP.at F11 L11)) (H.was _ [] F_x13) (H.was _ [] F_x14) (H.was _ [] (VP.at F12 L12))) (by first | assumption | omega)⟩) ?_
 refine .e rfl (fun H=>x_ldr (H.z 6 E4_1) (H.bo B26 0 4)) ?_
 refine .cR rfl [1] Tryz.func184 (fun H=>⟨_,ar2 (H.r 28 1) (H.g 29 2),mtBehind y.over (x.over.behind (Mb.mk (Cx.ofInt (1:Int) (0:Int)) ⟨0,0⟩ ⟨0,0⟩ (Cx.ofInt (1:Int) (0:Int)) false)) (SV.sub [1] (H.a 1 rfl) rfl) (MatP.mk (H.was _ [1] F_x47) (H.was _ [1] F_x48) (H.was _ [1] F_x49) (H.was _ [1] F_x50) (H.was _ [1] F_x51) (H.was _ [1] F_x52) (H.was _ [1] F_x53) (H.was _ [1] F_x54)) (by first | assumption | omega) (by first | assumption | omega)⟩) ?_
 refine Go2.storeOld (i:=4) 0 b26 rfl rfl rfl ⟨_,_,_,B26,rfl⟩ (SP.old 0 b26 [3] (fun u=>#[((u 3).v.cells.getD 0 undef),((u 3).v.cells.getD 1 undef),((u 3).v.cells.getD 2 undef),((u 3).v.cells.getD 3 undef),((u 3).v.cells.getD 4 undef),((u 3).v.cells.getD 5 undef),((u 3).v.cells.getD 6 undef),((u 3).v.cells.getD 7 undef),.bool ((y.over.behind (x.over.behind (Mb.mk (Cx.ofInt (1:Int) (0:Int)) ⟨0,0⟩ ⟨0,0⟩ (Cx.ofInt (1:Int) (0:Int)) false))).t)]) 198 (by intro u u' h; simp [h 3 (by simp)]) (lt_of B26) (by intro y k hy; match y,hy with | 0,hy=>rfl)) (fun u μ ρ H=>?_) ?_
 · have e6:=H.z 6 E4_1; have e30:=H.r 30 3; have hb:=H.blkOld B26 0 4 rfl (.inl rfl)
   obtain ⟨x1,x2,x3,x4,x5,x6,x7,x8,h1,h2,h3,h4,h5,h6,h7,h8,h9⟩:=(H.a 3 rfl)
   have o1:=VP1.ratn h2
   have o2:=VP1.ratn h3
   have o3:=VP1.ratn h4
   have o4:=VP1.ratn h5
   have o5:=VP1.ratn h6
   have o6:=VP1.ratn h7
   have o7:=VP1.ratn h8
   have o8:=VP1.ratn h9
   rw [h1] at e30
   refine ⟨μ.setRow b26 #[x1,x2,x3,x4,x5,x6,x7,x8,.bool ((y.over.behind (x.over.behind (Mb.mk (Cx.ofInt (1:Int) (0:Int)) ⟨0,0⟩ ⟨0,0⟩ (Cx.ofInt (1:Int) (0:Int)) false))).t)],ex_store_row 198 _ _ rfl e6 e30 hb (by kernel_rfl) rfl (by simp [o1,o2,o3,o4,o5,o6,o7,o8] <;> rfl),fun g=>?_,setRow_only _ _ _⟩
   show (World.setRow _ _ _).heap[b26]? = _
   rw [setRow_at hb]; try simp [upd,h1,Value.cells]
 refine .d1 (fun u=>.slice (some ⟨b1,0,none⟩) 2 2::U::u1 0::u1 1::.slice (some ⟨b6,0,none⟩) 2 c6::u10 6::u4 1::u5 1::U::u14 2::.tuple #[.slice (some ⟨b6,0,none⟩) 2 c6,.int .i64 0]::.slice (some ⟨b1,0,none⟩) 2 2::.tuple #[.slice (some ⟨b6,0,none⟩) 2 c6,.int .i64 0]::.slice (some ⟨b6,0,none⟩) 2 c6::.int .i64 0::u3 0::u3 1::U::U::u4 0::u5 0::u6 0::u6 1::.int .i64 1::u13 0::u14 0::u14 1::sq u 0 4 (u10 2::u10 0::u10 1::u10 3::u10 4::u11 0::u11 1::.int .i64 1::U::U::[])) K63 bel A26 fun u15 w15 D bel=>?_
 obtain ⟨x64,x65,x66,x67,x68,x69,x70,x71,E15_1,F_x64,F_x65,F_x66,F_x67,F_x68,F_x69,F_x70,F_x71⟩:=(D.rr 1)
 obtain ⟨x72,x73,x74,x75,x76,x77,x78,x79,E15_3,F_x72,F_x73,F_x74,F_x75,F_x76,F_x77,F_x78,F_x79⟩:=(D.rr 3)
 have E15_0:=D.q 0
 have E15_2:=D.q 2
 replace B3:=D.k1 B3 (Ne.symm N3_26)
 replace B26:w15.heap[b26]? = _:=(D.a 4 rfl)
 simp only [Value.cells,E15_1,E15_3] at B26
 replace B28:=D.k1 B28 N26_28
 replace B62:=D.k1 B62 N26_62
 replace F7:=D.o L7 F7
 replace F8:=D.o L8 F8
 replace F11:=D.o L11 F11
 replace F12:=D.o L12 F12
 replace B6:=D.kk B6 (no_cons (Ne.symm N6_26) (no_nil _))
 replace F_x9:=D.gr (RatN x.b.re) F_x9
 replace F_x10:=D.gr (RatN x.b.im) F_x10
 replace F_x13:=D.gr (RatN y.b.re) F_x13
 replace F_x14:=D.gr (RatN y.b.im) F_x14
 replace F_x47:=D.gr (RatN (((x.over.behind (Mb.mk (Cx.ofInt (1:Int) (0:Int)) ⟨0,0⟩ ⟨0,0⟩ (Cx.ofInt (1:Int) (0:Int)) false)).a).re)) F_x47
 replace F_x48:=D.gr (RatN (((x.over.behind (Mb.mk (Cx.ofInt (1:Int) (0:Int)) ⟨0,0⟩ ⟨0,0⟩ (Cx.ofInt (1:Int) (0:Int)) false)).a).im)) F_x48
 replace F_x49:=D.gr (RatN (((x.over.behind (Mb.mk (Cx.ofInt (1:Int) (0:Int)) ⟨0,0⟩ ⟨0,0⟩ (Cx.ofInt (1:Int) (0:Int)) false)).b).re)) F_x49
 replace F_x50:=D.gr (RatN (((x.over.behind (Mb.mk (Cx.ofInt (1:Int) (0:Int)) ⟨0,0⟩ ⟨0,0⟩ (Cx.ofInt (1:Int) (0:Int)) false)).b).im)) F_x50
 replace F_x51:=D.gr (RatN (((x.over.behind (Mb.mk (Cx.ofInt (1:Int) (0:Int)) ⟨0,0⟩ ⟨0,0⟩ (Cx.ofInt (1:Int) (0:Int)) false)).c).re)) F_x51
 replace F_x52:=D.gr (RatN (((x.over.behind (Mb.mk (Cx.ofInt (1:Int) (0:Int)) ⟨0,0⟩ ⟨0,0⟩ (Cx.ofInt (1:Int) (0:Int)) false)).c).im)) F_x52
 replace F_x53:=D.gr (RatN (((x.over.behind (Mb.mk (Cx.ofInt (1:Int) (0:Int)) ⟨0,0⟩ ⟨0,0⟩ (Cx.ofInt (1:Int) (0:Int)) false)).d).re)) F_x53
 replace F_x54:=D.gr (RatN (((x.over.behind (Mb.mk (Cx.ofInt (1:Int) (0:Int)) ⟨0,0⟩ ⟨0,0⟩ (Cx.ofInt (1:Int) (0:Int)) false)).d).im)) F_x54
 clear D
 refine gs1 7 (Amb Z0 W) 5 B28 fun _ K80=>?_
 refine .e rfl (fun H=>x_ldr (H.z 6 E4_1) (H.b1 B26 (Ne.symm N26_28))) ?_
 refine .cK rfl Tryz.func145 (fun H=>⟨_,ar1 (H.g 32 0),mtTold (y.over.behind (x.over.behind (Mb.mk (Cx.ofInt (1:Int) (0:Int)) ⟨0,0⟩ ⟨0,0⟩ (Cx.ofInt (1:Int) (0:Int)) false))) (MatP.mk (VP.any _ (H.was _ [] F_x72)) (VP.any _ (H.was _ [] F_x73)) (VP.any _ (H.was _ [] F_x74)) (VP.any _ (H.was _ [] F_x75)) (VP.any _ (H.was _ [] F_x76)) (VP.any _ (H.was _ [] F_x77)) (VP.any _ (H.was _ [] F_x78)) (VP.any _ (H.was _ [] F_x79))) (by first | assumption | omega) (by first | assumption | omega)⟩) ?_
 refine .mv rfl 1 ?_
 refine .e rfl (V:=rmbV (mbcut (y.over.behind (x.over.behind (Mb.mk (Cx.ofInt (1:Int) (0:Int)) ⟨0,0⟩ ⟨0,0⟩ (Cx.ofInt (1:Int) (0:Int)) false))).nrm)) (fun H=>x_ex (H.g 31 2)) ?_
 refine .e rfl (V:=.int .i64 (mberr (y.over.behind (x.over.behind (Mb.mk (Cx.ofInt (1:Int) (0:Int)) ⟨0,0⟩ ⟨0,0⟩ (Cx.ofInt (1:Int) (0:Int)) false))).nrm)) (fun H=>x_ex (H.g 31 2)) ?_
 refine .s1 rfl B28 (fun H=>⟨H.z 7 E5_1,H.g 34 3⟩) ?_
 refine .mv rfl 4 ?_
 refine .d1 (fun u=>.slice (some ⟨b1,0,none⟩) 2 2::U::u1 0::u1 1::.slice (some ⟨b6,0,none⟩) 2 c6::u 6::u4 1::u5 1::U::u14 2::.tuple #[.slice (some ⟨b6,0,none⟩) 2 c6,.int .i64 0]::.slice (some ⟨b1,0,none⟩) 2 2::.tuple #[.slice (some ⟨b6,0,none⟩) 2 c6,.int .i64 0]::.slice (some ⟨b6,0,none⟩) 2 c6::.int .i64 0::u3 0::u3 1::U::U::u4 0::u5 0::u6 0::u6 1::.int .i64 1::u13 0::u14 0::u14 1::sq u15 0 4 (u 2::u 0::u 1::u 3::u 4::u11 0::u11 1::.int .i64 1::U::U::[])) K80 bel A28 fun u16 w16 D bel=>?_
 have E16_0:=D.q 0
 have E16_1:=D.q 1
 have E16_2:=D.q 2
 have E16_3:=D.q 3
 have E16_4:=D.q 4
 have E16_6:=D.q 6
 replace B3:=D.k1 B3 (Ne.symm N3_28)
 replace B26:=D.k1 B26 (Ne.symm N26_28)
 replace B28:=D.ol 5
 replace B62:=D.k1 B62 N28_62
 replace F7:=D.o L7 F7
 replace F8:=D.o L8 F8
 replace F11:=D.o L11 F11
 replace F12:=D.o L12 F12
 replace B6:=D.kk B6 (no_cons (Ne.symm N6_28) (no_nil _))
 replace F_x9:=D.gr (RatN x.b.re) F_x9
 replace F_x10:=D.gr (RatN x.b.im) F_x10
 replace F_x13:=D.gr (RatN y.b.re) F_x13
 replace F_x14:=D.gr (RatN y.b.im) F_x14
 replace F_x47:=D.gr (RatN (((x.over.behind (Mb.mk (Cx.ofInt (1:Int) (0:Int)) ⟨0,0⟩ ⟨0,0⟩ (Cx.ofInt (1:Int) (0:Int)) false)).a).re)) F_x47
 replace F_x48:=D.gr (RatN (((x.over.behind (Mb.mk (Cx.ofInt (1:Int) (0:Int)) ⟨0,0⟩ ⟨0,0⟩ (Cx.ofInt (1:Int) (0:Int)) false)).a).im)) F_x48
 replace F_x49:=D.gr (RatN (((x.over.behind (Mb.mk (Cx.ofInt (1:Int) (0:Int)) ⟨0,0⟩ ⟨0,0⟩ (Cx.ofInt (1:Int) (0:Int)) false)).b).re)) F_x49
 replace F_x50:=D.gr (RatN (((x.over.behind (Mb.mk (Cx.ofInt (1:Int) (0:Int)) ⟨0,0⟩ ⟨0,0⟩ (Cx.ofInt (1:Int) (0:Int)) false)).b).im)) F_x50
 replace F_x51:=D.gr (RatN (((x.over.behind (Mb.mk (Cx.ofInt (1:Int) (0:Int)) ⟨0,0⟩ ⟨0,0⟩ (Cx.ofInt (1:Int) (0:Int)) false)).c).re)) F_x51
 replace F_x52:=D.gr (RatN (((x.over.behind (Mb.mk (Cx.ofInt (1:Int) (0:Int)) ⟨0,0⟩ ⟨0,0⟩ (Cx.ofInt (1:Int) (0:Int)) false)).c).im)) F_x52
 replace F_x53:=D.gr (RatN (((x.over.behind (Mb.mk (Cx.ofInt (1:Int) (0:Int)) ⟨0,0⟩ ⟨0,0⟩ (Cx.ofInt (1:Int) (0:Int)) false)).d).re)) F_x53
 replace F_x54:=D.gr (RatN (((x.over.behind (Mb.mk (Cx.ofInt (1:Int) (0:Int)) ⟨0,0⟩ ⟨0,0⟩ (Cx.ofInt (1:Int) (0:Int)) false)).d).im)) F_x54
 replace F_x64:=D.gr (RatN y.over.a.re) F_x64
 replace F_x65:=D.gr (RatN y.over.a.im) F_x65
 replace F_x66:=D.gr (RatN y.over.b.re) F_x66
 replace F_x67:=D.gr (RatN y.over.b.im) F_x67
 replace F_x68:=D.gr (RatN y.over.c.re) F_x68
 replace F_x69:=D.gr (RatN y.over.c.im) F_x69
 replace F_x70:=D.gr (RatN y.over.d.re) F_x70
 replace F_x71:=D.gr (RatN y.over.d.im) F_x71
 replace F_x72:=D.gr (RatN (((y.over.behind (x.over.behind (Mb.mk (Cx.ofInt (1:Int) (0:Int)) ⟨0,0⟩ ⟨0,0⟩ (Cx.ofInt (1:Int) (0:Int)) false))).a).re)) F_x72
 replace F_x73:=D.gr (RatN (((y.over.behind (x.over.behind (Mb.mk (Cx.ofInt (1:Int) (0:Int)) ⟨0,0⟩ ⟨0,0⟩ (Cx.ofInt (1:Int) (0:Int)) false))).a).im)) F_x73
 replace F_x74:=D.gr (RatN (((y.over.behind (x.over.behind (Mb.mk (Cx.ofInt (1:Int) (0:Int)) ⟨0,0⟩ ⟨0,0⟩ (Cx.ofInt (1:Int) (0:Int)) false))).b).re)) F_x74
 replace F_x75:=D.gr (RatN (((y.over.behind (x.over.behind (Mb.mk (Cx.ofInt (1:Int) (0:Int)) ⟨0,0⟩ ⟨0,0⟩ (Cx.ofInt (1:Int) (0:Int)) false))).b).im)) F_x75
 replace F_x76:=D.gr (RatN (((y.over.behind (x.over.behind (Mb.mk (Cx.ofInt (1:Int) (0:Int)) ⟨0,0⟩ ⟨0,0⟩ (Cx.ofInt (1:Int) (0:Int)) false))).c).re)) F_x76
 replace F_x77:=D.gr (RatN (((y.over.behind (x.over.behind (Mb.mk (Cx.ofInt (1:Int) (0:Int)) ⟨0,0⟩ ⟨0,0⟩ (Cx.ofInt (1:Int) (0:Int)) false))).c).im)) F_x77
 replace F_x78:=D.gr (RatN (((y.over.behind (x.over.behind (Mb.mk (Cx.ofInt (1:Int) (0:Int)) ⟨0,0⟩ ⟨0,0⟩ (Cx.ofInt (1:Int) (0:Int)) false))).d).re)) F_x78
 replace F_x79:=D.gr (RatN (((y.over.behind (x.over.behind (Mb.mk (Cx.ofInt (1:Int) (0:Int)) ⟨0,0⟩ ⟨0,0⟩ (Cx.ofInt (1:Int) (0:Int)) false))).d).im)) F_x79
 clear D
 refine gs 2 (Amb Z0 W) fun _ K81=>?_
 refine .mz rfl 5 E16_6 ?_
 refine .e rfl (V:=.bool false) (fun H=>x_cm (H.g 36 0) (H.c _) (err_0 p3)) ?_
 refine .dk (fun u=>.slice (some ⟨b1,0,none⟩) 2 2::U::u1 0::u1 1::.slice (some ⟨b6,0,none⟩) 2 c6::u16 6::u4 1::u5 1::U::u14 2::.tuple #[.slice (some ⟨b6,0,none⟩) 2 c6,.int .i64 0]::.slice (some ⟨b1,0,none⟩) 2 2::.tuple #[.slice (some ⟨b6,0,none⟩) 2 c6,.int .i64 0]::.slice (some ⟨b6,0,none⟩) 2 c6::.int .i64 0::u3 0::u3 1::U::U::u4 0::u5 0::u6 0::u6 1::.int .i64 1::u13 0::u14 0::u14 1::sq u15 0 4 (u16 2::u16 0::u16 1::u16 3::u16 4::u 0::u 1::.int .i64 1::U::U::[])) K81 bel fun u17 w17 D bel=>?_
 have E17_0:=D.q 0
 have E17_1:=D.q 1
 replace B3:=D.k B3
 replace B26:=D.k B26
 replace B28:=D.k B28
 replace B62:=D.k B62
 replace F7:=D.o L7 F7
 replace F8:=D.o L8 F8
 replace F11:=D.o L11 F11
 replace F12:=D.o L12 F12
 replace B6:=D.k B6
 replace F_x9:=D.gr (RatN x.b.re) F_x9
 replace F_x10:=D.gr (RatN x.b.im) F_x10
 replace F_x13:=D.gr (RatN y.b.re) F_x13
 replace F_x14:=D.gr (RatN y.b.im) F_x14
 replace F_x47:=D.gr (RatN (((x.over.behind (Mb.mk (Cx.ofInt (1:Int) (0:Int)) ⟨0,0⟩ ⟨0,0⟩ (Cx.ofInt (1:Int) (0:Int)) false)).a).re)) F_x47
 replace F_x48:=D.gr (RatN (((x.over.behind (Mb.mk (Cx.ofInt (1:Int) (0:Int)) ⟨0,0⟩ ⟨0,0⟩ (Cx.ofInt (1:Int) (0:Int)) false)).a).im)) F_x48
 replace F_x49:=D.gr (RatN (((x.over.behind (Mb.mk (Cx.ofInt (1:Int) (0:Int)) ⟨0,0⟩ ⟨0,0⟩ (Cx.ofInt (1:Int) (0:Int)) false)).b).re)) F_x49
 replace F_x50:=D.gr (RatN (((x.over.behind (Mb.mk (Cx.ofInt (1:Int) (0:Int)) ⟨0,0⟩ ⟨0,0⟩ (Cx.ofInt (1:Int) (0:Int)) false)).b).im)) F_x50
 replace F_x51:=D.gr (RatN (((x.over.behind (Mb.mk (Cx.ofInt (1:Int) (0:Int)) ⟨0,0⟩ ⟨0,0⟩ (Cx.ofInt (1:Int) (0:Int)) false)).c).re)) F_x51
 replace F_x52:=D.gr (RatN (((x.over.behind (Mb.mk (Cx.ofInt (1:Int) (0:Int)) ⟨0,0⟩ ⟨0,0⟩ (Cx.ofInt (1:Int) (0:Int)) false)).c).im)) F_x52
 replace F_x53:=D.gr (RatN (((x.over.behind (Mb.mk (Cx.ofInt (1:Int) (0:Int)) ⟨0,0⟩ ⟨0,0⟩ (Cx.ofInt (1:Int) (0:Int)) false)).d).re)) F_x53
 replace F_x54:=D.gr (RatN (((x.over.behind (Mb.mk (Cx.ofInt (1:Int) (0:Int)) ⟨0,0⟩ ⟨0,0⟩ (Cx.ofInt (1:Int) (0:Int)) false)).d).im)) F_x54
 replace F_x64:=D.gr (RatN y.over.a.re) F_x64
 replace F_x65:=D.gr (RatN y.over.a.im) F_x65
 replace F_x66:=D.gr (RatN y.over.b.re) F_x66
 replace F_x67:=D.gr (RatN y.over.b.im) F_x67
 replace F_x68:=D.gr (RatN y.over.c.re) F_x68
 replace F_x69:=D.gr (RatN y.over.c.im) F_x69
 replace F_x70:=D.gr (RatN y.over.d.re) F_x70
 replace F_x71:=D.gr (RatN y.over.d.im) F_x71
 replace F_x72:=D.gr (RatN (((y.over.behind (x.over.behind (Mb.mk (Cx.ofInt (1:Int) (0:Int)) ⟨0,0⟩ ⟨0,0⟩ (Cx.ofInt (1:Int) (0:Int)) false))).a).re)) F_x72
 replace F_x73:=D.gr (RatN (((y.over.behind (x.over.behind (Mb.mk (Cx.ofInt (1:Int) (0:Int)) ⟨0,0⟩ ⟨0,0⟩ (Cx.ofInt (1:Int) (0:Int)) false))).a).im)) F_x73
 replace F_x74:=D.gr (RatN (((y.over.behind (x.over.behind (Mb.mk (Cx.ofInt (1:Int) (0:Int)) ⟨0,0⟩ ⟨0,0⟩ (Cx.ofInt (1:Int) (0:Int)) false))).b).re)) F_x74
 replace F_x75:=D.gr (RatN (((y.over.behind (x.over.behind (Mb.mk (Cx.ofInt (1:Int) (0:Int)) ⟨0,0⟩ ⟨0,0⟩ (Cx.ofInt (1:Int) (0:Int)) false))).b).im)) F_x75
 replace F_x76:=D.gr (RatN (((y.over.behind (x.over.behind (Mb.mk (Cx.ofInt (1:Int) (0:Int)) ⟨0,0⟩ ⟨0,0⟩ (Cx.ofInt (1:Int) (0:Int)) false))).c).re)) F_x76
 replace F_x77:=D.gr (RatN (((y.over.behind (x.over.behind (Mb.mk (Cx.ofInt (1:Int) (0:Int)) ⟨0,0⟩ ⟨0,0⟩ (Cx.ofInt (1:Int) (0:Int)) false))).c).im)) F_x77
 replace F_x78:=D.gr (RatN (((y.over.behind (x.over.behind (Mb.mk (Cx.ofInt (1:Int) (0:Int)) ⟨0,0⟩ ⟨0,0⟩ (Cx.ofInt (1:Int) (0:Int)) false))).d).re)) F_x78
 replace F_x79:=D.gr (RatN (((y.over.behind (x.over.behind (Mb.mk (Cx.ofInt (1:Int) (0:Int)) ⟨0,0⟩ ⟨0,0⟩ (Cx.ofInt (1:Int) (0:Int)) false))).d).im)) F_x79
 clear D
 refine wp_cond_false (by exact E17_1) ?_
 refine wp_skip ?_
 refine inBlock_normal ?_
 refine K60 _ _ ?_
 refine wp_region_list ?_
 refine wpT_val (v:=.int .i64 2) rfl (by have aw_:IntKind.wrap .i64 2 = 2:=(by decide); go_simp) ?_
 refine wpT_val rfl (ex_move rfl) ?_
 refine wpList_as (fr (.slice (some ⟨b1,0,none⟩) 2 2::U::u1 0::u1 1::.slice (some ⟨b6,0,none⟩) 2 c6::u16 6::u4 1::u5 1::U::u14 2::.tuple #[.slice (some ⟨b6,0,none⟩) 2 c6,.int .i64 0]::.slice (some ⟨b1,0,none⟩) 2 2::.tuple #[.slice (some ⟨b6,0,none⟩) 2 c6,.int .i64 0]::.slice (some ⟨b6,0,none⟩) 2 c6::.int .i64 0::u3 0::u3 1::U::U::u4 0::u5 0::u6 0::u6 1::.int .i64 2::u13 0::u14 0::u14 1::sq u15 0 4 (u16 2::u16 0::u16 1::u16 3::u16 4::u17 0::u17 1::.int .i64 2::U::U::[]))) (by kernel_rfl) ?_
 refine wpList_nil ?_
 show _
 refine hK57 _ _ ?_
 refine rounds_k fun K82 hK82=>?_
 refine gs 1 (Amb Z0 W) fun _ K83=>?_
 refine .e rfl (V:=.bool false) (fun H=>x_cmp (H.v 23 (.int .i64 2)) (H.z 22 E6_1)) ?_
 refine .dk (fun u=>.slice (some ⟨b1,0,none⟩) 2 2::U::u1 0::u1 1::.slice (some ⟨b6,0,none⟩) 2 c6::u16 6::u4 1::u5 1::U::u14 2::.tuple #[.slice (some ⟨b6,0,none⟩) 2 c6,.int .i64 0]::.slice (some ⟨b1,0,none⟩) 2 2::.tuple #[.slice (some ⟨b6,0,none⟩) 2 c6,.int .i64 0]::.slice (some ⟨b6,0,none⟩) 2 c6::.int .i64 0::u3 0::u3 1::U::U::u4 0::u5 0::u6 0::u6 1::.int .i64 2::u 0::u14 0::u14 1::sq u15 0 4 (u16 2::u16 0::u16 1::u16 3::u16 4::u17 0::u17 1::.int .i64 2::U::U::[])) K83 bel fun u19 w19 D bel=>?_
 have E19_0:=D.q 0
 replace B3:=D.k B3
 replace B26:=D.k B26
 replace B28:=D.k B28
 replace B62:=D.k B62
 replace F7:=D.o L7 F7
 replace F8:=D.o L8 F8
 replace F11:=D.o L11 F11
 replace F12:=D.o L12 F12
 replace B6:=D.k B6
 replace F_x9:=D.gr (RatN x.b.re) F_x9
 replace F_x10:=D.gr (RatN x.b.im) F_x10
 replace F_x13:=D.gr (RatN y.b.re) F_x13
 replace F_x14:=D.gr (RatN y.b.im) F_x14
 replace F_x47:=D.gr (RatN (((x.over.behind (Mb.mk (Cx.ofInt (1:Int) (0:Int)) ⟨0,0⟩ ⟨0,0⟩ (Cx.ofInt (1:Int) (0:Int)) false)).a).re)) F_x47
 replace F_x48:=D.gr (RatN (((x.over.behind (Mb.mk (Cx.ofInt (1:Int) (0:Int)) ⟨0,0⟩ ⟨0,0⟩ (Cx.ofInt (1:Int) (0:Int)) false)).a).im)) F_x48
 replace F_x49:=D.gr (RatN (((x.over.behind (Mb.mk (Cx.ofInt (1:Int) (0:Int)) ⟨0,0⟩ ⟨0,0⟩ (Cx.ofInt (1:Int) (0:Int)) false)).b).re)) F_x49
 replace F_x50:=D.gr (RatN (((x.over.behind (Mb.mk (Cx.ofInt (1:Int) (0:Int)) ⟨0,0⟩ ⟨0,0⟩ (Cx.ofInt (1:Int) (0:Int)) false)).b).im)) F_x50
 replace F_x51:=D.gr (RatN (((x.over.behind (Mb.mk (Cx.ofInt (1:Int) (0:Int)) ⟨0,0⟩ ⟨0,0⟩ (Cx.ofInt (1:Int) (0:Int)) false)).c).re)) F_x51
 replace F_x52:=D.gr (RatN (((x.over.behind (Mb.mk (Cx.ofInt (1:Int) (0:Int)) ⟨0,0⟩ ⟨0,0⟩ (Cx.ofInt (1:Int) (0:Int)) false)).c).im)) F_x52
 replace F_x53:=D.gr (RatN (((x.over.behind (Mb.mk (Cx.ofInt (1:Int) (0:Int)) ⟨0,0⟩ ⟨0,0⟩ (Cx.ofInt (1:Int) (0:Int)) false)).d).re)) F_x53
 replace F_x54:=D.gr (RatN (((x.over.behind (Mb.mk (Cx.ofInt (1:Int) (0:Int)) ⟨0,0⟩ ⟨0,0⟩ (Cx.ofInt (1:Int) (0:Int)) false)).d).im)) F_x54
 replace F_x64:=D.gr (RatN y.over.a.re) F_x64
 replace F_x65:=D.gr (RatN y.over.a.im) F_x65
 replace F_x66:=D.gr (RatN y.over.b.re) F_x66
 replace F_x67:=D.gr (RatN y.over.b.im) F_x67
 replace F_x68:=D.gr (RatN y.over.c.re) F_x68
 replace F_x69:=D.gr (RatN y.over.c.im) F_x69
 replace F_x70:=D.gr (RatN y.over.d.re) F_x70
 replace F_x71:=D.gr (RatN y.over.d.im) F_x71
 replace F_x72:=D.gr (RatN (((y.over.behind (x.over.behind (Mb.mk (Cx.ofInt (1:Int) (0:Int)) ⟨0,0⟩ ⟨0,0⟩ (Cx.ofInt (1:Int) (0:Int)) false))).a).re)) F_x72
 replace F_x73:=D.gr (RatN (((y.over.behind (x.over.behind (Mb.mk (Cx.ofInt (1:Int) (0:Int)) ⟨0,0⟩ ⟨0,0⟩ (Cx.ofInt (1:Int) (0:Int)) false))).a).im)) F_x73
 replace F_x74:=D.gr (RatN (((y.over.behind (x.over.behind (Mb.mk (Cx.ofInt (1:Int) (0:Int)) ⟨0,0⟩ ⟨0,0⟩ (Cx.ofInt (1:Int) (0:Int)) false))).b).re)) F_x74
 replace F_x75:=D.gr (RatN (((y.over.behind (x.over.behind (Mb.mk (Cx.ofInt (1:Int) (0:Int)) ⟨0,0⟩ ⟨0,0⟩ (Cx.ofInt (1:Int) (0:Int)) false))).b).im)) F_x75
 replace F_x76:=D.gr (RatN (((y.over.behind (x.over.behind (Mb.mk (Cx.ofInt (1:Int) (0:Int)) ⟨0,0⟩ ⟨0,0⟩ (Cx.ofInt (1:Int) (0:Int)) false))).c).re)) F_x76
 replace F_x77:=D.gr (RatN (((y.over.behind (x.over.behind (Mb.mk (Cx.ofInt (1:Int) (0:Int)) ⟨0,0⟩ ⟨0,0⟩ (Cx.ofInt (1:Int) (0:Int)) false))).c).im)) F_x77
 replace F_x78:=D.gr (RatN (((y.over.behind (x.over.behind (Mb.mk (Cx.ofInt (1:Int) (0:Int)) ⟨0,0⟩ ⟨0,0⟩ (Cx.ofInt (1:Int) (0:Int)) false))).d).re)) F_x78
 replace F_x79:=D.gr (RatN (((y.over.behind (x.over.behind (Mb.mk (Cx.ofInt (1:Int) (0:Int)) ⟨0,0⟩ ⟨0,0⟩ (Cx.ofInt (1:Int) (0:Int)) false))).d).im)) F_x79
 clear D
 refine wp_seq_k fun _ K84=>?_
 refine wp_cond_false (by exact E19_0) ?_
 refine wp_exit ?_
 refine then_exit ?_
 refine then_exit ?_
 refine inBlock_here ?_
 refine K30 _ _ ?_
 refine gs1 4 (Amb Z0 W) 2 B3 fun _ K85=>?_
 refine .e rfl (fun H=>x_ldr (H.z 7 E5_1) (H.b1 B28 N3_28)) ?_
 refine .mz rfl 5 E16_6 ?_
 refine .s1 rfl B3 (fun H=>⟨H.z 2 E1_0,H.g 39 0⟩) ?_
 refine .mv rfl 1 ?_
 refine .d1 (fun u=>.slice (some ⟨b1,0,none⟩) 2 2::U::u1 0::u 3::.slice (some ⟨b6,0,none⟩) 2 c6::u16 6::u4 1::u5 1::U::u14 2::.tuple #[.slice (some ⟨b6,0,none⟩) 2 c6,.int .i64 0]::.slice (some ⟨b1,0,none⟩) 2 2::.tuple #[.slice (some ⟨b6,0,none⟩) 2 c6,.int .i64 0]::.slice (some ⟨b6,0,none⟩) 2 c6::.int .i64 0::u3 0::u3 1::U::U::u4 0::u5 0::u6 0::u6 1::.int .i64 2::u19 0::u14 0::u14 1::sq u15 0 4 (u16 2::u16 0::u16 1::u16 3::u16 4::u17 0::u17 1::.int .i64 2::u 0::u 1::[])) K85 bel A3 fun u20 w20 D bel=>?_
 have E20_3:=D.q 3
 replace B3:=D.ol 2
 clear D
 refine wp_ret ?_
 refine ret_ok rfl (by exact results_mix rfl (by exact E1_0) B3 Tryz.underlying44 rfl (by kernel_rfl) (by exact E20_3)) (RetV.mk ?_ bel)
 exact congrArg Ending.returned (rfl)
end Go.Proofs.YtcpjdjnaipbieaaGreat
namespace Go.Proofs.YtcpjdjnaipbieaaGreat
open Go.RowKit Rgn Eng
set_option maxHeartbeats 8000000
set_option maxRecDepth 100000
variable {S:Nat → Prop} {W:World}
theorem mbCm1N (r:RMb) (p0:mbOk r = false):Calls Tryz.prog 217 #[rmbV r] W (RetV (.bool true) W):=by
 refine Run.goP (S:=Z0) (Pack.nil.k (rmbV r) (rmbC r).toList (.s (.agg (ks 0 33)))) Tryz.func217 rfl ?_
 refine Run.cV [] (.s (.o (.c (.int .i64 2)))) (fun _ _ _ H=>mbChkN r p0) ?_
 exact Run.rV rfl
theorem ixMob3N {b0:Nat} (x:Mb) (y:Mb) (r:RMb) (B0:W.heap[b0]? = some (.cells (⟨(mbC x).toList ++ ((mbC y).toList ++ ((rmbC r).toList))⟩) 44 (0,0))) (p0:mbOk (rmb x) = true) (p1:mbOk (rmb y) = true) (p2:mbOk r = false):Calls Tryz.prog 268 #[.slice (some ⟨b0,0,none⟩) 3 3,.func (.func 217) #[] #[]] W (RetV (.int .i64 2) W):=by
 refine Run.goP (S:=Z0) ((Pack.nil.b B0 (some 3) 99).k (.func (.func 217) #[] #[]) [] (.s (.o (.fn 217 [])))) Tryz.func268 rfl ?_
 refine Run.cV [] (cb false) (fun _ _ _ H=>mbCm1 x p0) ?_
 refine Run.cV [] (cb false) (fun _ _ _ H=>mbCm1 y p1) ?_
 refine Run.cV [] (cb true) (fun _ _ _ H=>mbCm1N r p2) ?_
 exact Run.rV rfl
theorem ctMob3N {b0:Nat} (x:Mb) (y:Mb) (r:RMb) (B0:W.heap[b0]? = some (.cells (⟨(mbC x).toList ++ ((mbC y).toList ++ ((rmbC r).toList))⟩) 44 (0,0))) (p0:mbOk (rmb x) = true) (p1:mbOk (rmb y) = true) (p2:mbOk r = false):Calls Tryz.prog 216 #[.slice (some ⟨b0,0,none⟩) 3 3,.func (.func 217) #[] #[]] W (RetV (.bool true) W):=by
 refine Run.goP (S:=Z0) ((Pack.nil.b B0 (some 3) 99).k (.func (.func 217) #[] #[]) [] (.s (.o (.fn 217 [])))) Tryz.func216 rfl ?_
 refine Run.cV [] (.s (.o (.c (.int .i64 2)))) (fun _ _ _ H=>ixMob3N x y r (H.b 0) p0 p1 p2) ?_
 exact Run.rV rfl
theorem cpN3 {b0:Nat} (x:Mb) (y:Mb) (r:RMb) (B0:W.heap[b0]? = some (.cells (⟨(mbC x).toList ++ ((mbC y).toList ++ ((rmbC r).toList))⟩) 44 (0,0))) (p0:mbOk (rmb x) = true) (p1:mbOk (rmb y) = true) (p2:mbOk r = false):Calls Tryz.prog 104 #[.slice (some ⟨b0,0,none⟩) 3 3] W (RetV (.tuple #[rmbV rzMb,.int .i64 2]) W):=by
 refine Run.goP (S:=Z0) (Pack.nil.b B0 (some 3) 99) Tryz.func104 rfl ?_
 refine Run.cV [] (cb true) (fun _ _ _ H=>ctMob3N x y r (H.b 0) p0 p1 p2) ?_
 exact Run.rV rfl
end Go.Proofs.YtcpjdjnaipbieaaGreat
set_option maxRecDepth 100000
set_option maxHeartbeats 4000000
namespace Go.Proofs.YtcpjdjnaipbieaaGreat
open Go.RowKit Rgn
variable {W:World}
noncomputable def unPn (p:RPn):Pn:=if h:pnOk p = true then (pnOk_ex h).choose else ⟨false,⟨0,0⟩⟩
theorem unPn_ok {p:RPn} (h:pnOk p = true):p = pnR (unPn p) ∧ PnF (unPn p):=by unfold unPn; rw [dif_pos h]; exact (pnOk_ex h).choose_spec
noncomputable def unCi (r:RCi):Ci:=if h:ciOk r = true then (ciOk_ex h).choose else ⟨0,⟨0,0⟩,0⟩
theorem unCi_ok {r:RCi} (h:ciOk r = true):r = rci (unCi r):=by unfold unCi; rw [dif_pos h]; exact (ciOk_ex h).choose_spec.1
noncomputable def toM (r:RMb):OkM:=if h:mbOk r = true then ⟨(mbOk_ex h).choose,by rw [← (mbOk_ex h).choose_spec.1]; exact h⟩ else default
theorem toM_ok {r:RMb} (h:mbOk r = true):r = rmb (toM r).1:=by unfold toM; rw [dif_pos h]; exact (mbOk_ex h).choose_spec.1
theorem toM_is {m:Mb} (h:mbOk (rmb m) = true):(toM (rmb m)).1 = m:=(rmb_inj (toM_ok h)).symm
noncomputable def ptR (c:Ci) (p:RPn):RPn:=if pnOk p = true then pncut (c.over.nrm.send (unPn p)) else rzPn
noncomputable def ptE (c:Ci) (p:RPn):Int:=if pnOk p = true then pnerr (c.over.nrm.send (unPn p)) else 2
noncomputable def sdS (c:Ci) (p:RPn):Int:=if pnOk p = true then c.side (unPn p) else 0
noncomputable def sdE (_:Ci) (p:RPn):Int:=if pnOk p = true then 0 else 2
noncomputable def ovR (r:RCi):RMb:=if ciOk r = true then mbcut (unCi r).over.nrm else rzMb
noncomputable def ovE (r:RCi):Int:=if ciOk r = true then mberr (unCi r).over.nrm else 2
noncomputable def c2R (x y:RMb):RMb:=cpR [toM y,toM x]
noncomputable def c2E (x y:RMb):Int:=cpX [toM y,toM x]
noncomputable def c3R (x y z:RMb):RMb:=if mbOk z = true then cpR [toM z,toM y,toM x] else rzMb
noncomputable def c3E (x y z:RMb):Int:=if mbOk z = true then cpX [toM z,toM y,toM x] else 2
theorem ff {b:Bool} (h:b = false):¬ b = true:=by rw [h]; decide
theorem xPt (c:Ci) (p:RPn) (p0:ciOk (rci c) = true):Calls Tryz.prog 32 #[ciV c,rpnV p] W (RetV (.tuple #[rpnV (ptR c p),.int .i64 (ptE c p)]) W):=by
 cases h:pnOk p with
 | true =>
  obtain ⟨e,f⟩:=unPn_ok h
  have k:=ivPt (W:=W) c (unPn p) p0 f
  rw [← e] at k
  unfold ptR ptE; rw [if_pos h,if_pos h]; exact k
 | false=>unfold ptR ptE; rw [if_neg (ff h),if_neg (ff h)]; exact ivPtM c p p0 h
theorem xSd (c:Ci) (p:RPn) (p0:ciOk (rci c) = true):Calls Tryz.prog 102 #[ciV c,rpnV p] W (RetV (.tuple #[.int .i64 (sdS c p),.int .i64 (sdE c p)]) W):=by
 cases h:pnOk p with
 | true =>
  obtain ⟨e,f⟩:=unPn_ok h
  have k:=ccSide (W:=W) c (unPn p) p0 f
  rw [← e] at k
  unfold sdS sdE; rw [if_pos h,if_pos h]; exact k
 | false=>unfold sdS sdE; rw [if_neg (ff h),if_neg (ff h)]; exact ccSideM c p p0 h
theorem xOv (r:RCi):Calls Tryz.prog 31 #[rciV r] W (RetV (.tuple #[rmbV (ovR r),.int .i64 (ovE r)]) W):=by
 cases h:ciOk r with
 | true =>
  have e:=unCi_ok h
  have k:=ivOvO (W:=W) (unCi r) (by rw [← e]; exact h)
  unfold ovR ovE; rw [if_pos h,if_pos h]
  rw [show rciV r = ciV (unCi r) from congrArg rciV e]; exact k
 | false=>unfold ovR ovE; rw [if_neg (ff h),if_neg (ff h)]; exact ivOvN r h
theorem mbcut_y {k:Mb} (h:mbfits (rmb k) = true):mbcut k = rmb k:=by unfold mbcut; rw [if_pos h]
theorem xIs (k:Mb) (p0:mbfits (rmb k) = true) (p1:mbOk (rmb k) = true):Calls Tryz.prog 25 #[rmbV (mbcut k)] W (RetV (.tuple #[rciV k.isR,.int .i64 k.isE]) W):=by
 rw [mbcut_y p0]; exact ivIs k p1
theorem xC2 {b0:Nat} (x y:RMb) (B0:W.heap[b0]? = some (.cells (⟨(rmbC x).toList ++ ((rmbC y).toList)⟩) 44 (0,0))) (p0:mbOk x = true) (p1:mbOk y = true):Calls Tryz.prog 104 #[.slice (some ⟨b0,0,none⟩) 2 2] W (RetV (.tuple #[rmbV (c2R x y),.int .i64 (c2E x y)]) W):=by
 have e1:rmbC x = mbC (toM x).1:=congrArg rmbC (toM_ok p0)
 have e2:rmbC y = mbC (toM y).1:=congrArg rmbC (toM_ok p1)
 rw [e1,e2] at B0
 exact cpm2 _ _ B0
theorem xC3 {b0:Nat} (x y z:RMb) (B0:W.heap[b0]? = some (.cells (⟨(rmbC x).toList ++ ((rmbC y).toList ++ ((rmbC z).toList))⟩) 44 (0,0))) (p0:mbOk x = true) (p1:mbOk y = true):Calls Tryz.prog 104 #[.slice (some ⟨b0,0,none⟩) 3 3] W (RetV (.tuple #[rmbV (c3R x y z),.int .i64 (c3E x y z)]) W):=by
 have e1:rmbC x = mbC (toM x).1:=congrArg rmbC (toM_ok p0)
 have e2:rmbC y = mbC (toM y).1:=congrArg rmbC (toM_ok p1)
 rw [e1,e2] at B0
 cases h:mbOk z with
 | true =>
  have e3:rmbC z = mbC (toM z).1:=congrArg rmbC (toM_ok h)
  rw [e3] at B0
  unfold c3R c3E; rw [if_pos h,if_pos h]
  exact cpm3 _ _ _ B0
 | false =>
  unfold c3R c3E; rw [if_neg (ff h),if_neg (ff h)]
  exact cpN3 _ _ _ B0 (toM x).2 (toM y).2 h
theorem xCh {b0:Nat} (x y:Ci) (B0:W.heap[b0]? = some (.cells (⟨(ciC x).toList ++ ((ciC y).toList)⟩) 47 (0,0))) (p0:ciOk (rci x) = true) (p1:y = x) (p2:mbfits (rmb x.over.nrm) = true):Calls Tryz.prog 56 #[.slice (some ⟨b0,0,none⟩) 2 2] W (RetV (.tuple #[rmbV (rmb Mb.st),.int .i64 0]) W):=by
 subst p1
 obtain ⟨_,hp,hn⟩:=ciOk_c p0
 have d0:=over_dt p0
 have e1:y.over.behind (Mb.mk (Cx.ofInt (1:Int) (0:Int)) ⟨0,0⟩ ⟨0,0⟩ (Cx.ofInt (1:Int) (0:Int)) false) = y.over.nrm:=by rw [st_is,behind_st]
 have e2:y.over.behind (y.over.behind (Mb.mk (Cx.ofInt (1:Int) (0:Int)) ⟨0,0⟩ ⟨0,0⟩ (Cx.ofInt (1:Int) (0:Int)) false)) = Mb.st:=by rw [e1,twice_st hp]
 have dd:∀ s:Mb,s.det.zero = false → (y.over.dot (Mb.cjM true s)).piv.zero = false:=fun s hs=>det_piv (by
  rw [dot_det,cjM_det]
  exact mul_zero_f d0 (by unfold cjC; rw [if_pos rfl,zero_conj]; exact hs))
 have k:Calls Tryz.prog 56 #[.slice (some ⟨b0,0,none⟩) 2 2] W (RetV (.tuple #[rmbV (mbcut (y.over.behind (y.over.behind (Mb.mk (Cx.ofInt (1:Int) (0:Int)) ⟨0,0⟩ ⟨0,0⟩ (Cx.ofInt (1:Int) (0:Int)) false))).nrm),.int .i64 (mberr (y.over.behind (y.over.behind (Mb.mk (Cx.ofInt (1:Int) (0:Int)) ⟨0,0⟩ ⟨0,0⟩ (Cx.ofInt (1:Int) (0:Int)) false))).nrm)]) W) :=
  ivCh2 y y B0 p0 p0 (by rw [e1,nrm2 (over_piv hp)]; exact p2) (by rw [e2,st_nrm]; exact st_fit) (dd _ (by rw [st_is]; decide +kernel)) (dd _ (by rw [e1]; exact nrm_det d0)) (by rw [e1]; exact det_piv (nrm_det d0)) (by rw [e2]; decide +kernel)
 rw [e2,st_nrm,mbcut_y st_fit,mberr_0 st_fit] at k
 exact k
end Go.Proofs.YtcpjdjnaipbieaaGreat
namespace Go.Proofs.YtcpjdjnaipbieaaGreat
open Go.RowKit Rgn
theorem fit_of {m:Mb} (h:mberr m = 0):mbfits (rmb m) = true:=by
 unfold mberr at h; split at h
 ·assumption
 ·cases h
theorem cfit_of {c:Ci} (h:cierr c = 0):cifits (rci c) = true:=by
 unfold cierr at h; split at h
 ·assumption
 ·cases h
theorem and2 {a b:Int} (h:(!(a != 0) && !(b != 0)) = true):a = 0 ∧ b = 0:=by simpa using h
theorem and4 {a b c d:Int} (h:(!(a != 0) && !(b != 0) && !(c != 0) && !(d != 0)) = true):((a = 0 ∧ b = 0) ∧ c = 0) ∧ d = 0:=by simpa using h
theorem mul_div_self {k:Cx} (h:k.zero = false):k.div k = ⟨1,0⟩:=by
 rw [div_inv,← inv_one h]
 exact Cx.ext' (by simp only [Cx.mul]; grind) (by simp only [Cx.mul]; grind)
theorem sub_self_z:((Cx.mk 1 0).sub (Cx.ofInt (1:Int) (0:Int))).zero = true:=by decide +kernel
theorem zero_is {z:Cx} (h:z.zero = true):z = ⟨0,0⟩:=zero_iff.1 h
theorem zero_div {k:Cx}:(Cx.mk 0 0).div k = ⟨0,0⟩:=by
 rw [div_inv]; exact Cx.ext' (by show (0:Rat) * _ - 0 * _ = 0; grind) (by show (0:Rat) * _ + 0 * _ = 0; grind)
theorem nrm_form {m:Mb} (h:m.piv.zero = false):m.nrm.form = true:=by
 cases hc:m.c.zero with
 | false =>
  refine form_1 ?_
  show ((m.c.div m.piv).sub _).zero = true
  rw [mpiv_0 hc,mul_div_self hc]; exact sub_self_z
 | true =>
  have hd:m.d.zero = false:=by rw [mpiv_1 hc] at h; exact h
  unfold Mb.form
  have e1:m.nrm.c = ⟨0,0⟩:=by show m.c.div m.piv = _; rw [zero_is hc,zero_div]
  have e2:m.nrm.d = ⟨1,0⟩:=by show m.d.div m.piv = _; rw [mpiv_1 hc,mul_div_self hd]
  rw [e1,e2]; decide +kernel
section
variable {c d:Ci} {m:Mb} {p:RPn}
theorem tu_f1 {a b:Mb} (h:(!((mberr a) != 0) && !((mberr b) != 0)) = true):mbfits (rmb a) = true:=fit_of (and2 h).1
theorem tu_f2 {a b:Mb} (h:(!((mberr a) != 0) && !((mberr b) != 0)) = true):mbfits (rmb b) = true:=fit_of (and2 h).2
theorem tu_o (pc:ciOk (rci c) = true) (h:mbfits (rmb c.over.nrm) = true):mbOk (rmb c.over.nrm) = true:=mbOk_yes h (nrm_det (over_dt pc)) (nrm_form (over_piv (ciOk_c pc).2.1))
theorem tu_oc (pc:ciOk (rci c) = true) (h:mbfits (rmb c.over.nrm) = true):mbOk (mbcut c.over.nrm) = true:=by rw [mbcut_y h]; exact tu_o pc h
theorem tu_5 {a b:Mb} (h1:(!((mberr a) != 0) && !((mberr b) != 0)) = false) (h2:((mberr a) == 4) = false) (h3:((mberr b) == 4) = false):Value.bool false = .bool true:=by
 unfold mberr at *
 split at h1 <;> split at h1 <;> simp_all
theorem tu_is (pc:ciOk (rci c) = true):c.over.nrm.isR = rci c ∧ c.over.nrm.isE = 0:=by
 obtain ⟨h1,h2,h3⟩:=ciOk_c pc
 obtain ⟨e1,e2⟩:=is_over h2 h3
 unfold Mb.isR Mb.isE
 rw [if_pos e1,if_pos e1,e2]
 unfold cicut cierr
 rw [if_pos h1,if_pos h1]; exact ⟨rfl,rfl⟩
theorem tu_e (pc:ciOk (rci c) = true):(!((0:Int) != 0) && !(c.over.nrm.isE != 0)) = true:=by rw [(tu_is pc).2]; rfl
theorem tu_r (pc:ciOk (rci c) = true):(!decide (c.over.nrm.isR = rci c)) = false:=by rw [(tu_is pc).1,decide_eq_true rfl]; rfl
theorem pnR_inj {P Q:Pn} (hP:P.inf = true → P.z = ⟨0,0⟩) (hQ:Q.inf = true → Q.z = ⟨0,0⟩) (h:pnR P = pnR Q):P = Q:=by
 obtain ⟨i,z⟩:=P
 obtain ⟨j,w⟩:=Q
 unfold pnR at h
 cases i <;> cases j
 ·have:=rg_inj (congrArg RPn.z h); subst this; rfl
 ·exact absurd (congrArg RPn.inf h) (by simp)
 ·exact absurd (congrArg RPn.inf h) (by simp)
 ·have a:=hP rfl; have b:=hQ rfl
  simp only at a b; subst a; subst b; rfl
theorem tu_P (pc:ciOk (rci c) = true) (h:(!((ptE c p) != 0) && !((sdE c p) != 0)) = true):pnOk p = true ∧ PnF (c.over.nrm.send (unPn p)) ∧ ptR c p = pnR (c.over.nrm.send (unPn p)):=by
 obtain ⟨h1,h2⟩:=and2 h
 unfold ptE at h1
 split at h1
 ·rename_i hp
  have hf:pnfits (c.over.nrm.send (unPn p)) = true:=by
   unfold pnerr at h1; split at h1
   ·assumption
   ·cases h1
  refine ⟨hp,⟨sendZ,hf⟩,?_⟩
  unfold ptR pncut; rw [if_pos hp,if_pos hf]
 ·cases h1
theorem tu_Q (pc:ciOk (rci c) = true) (h:(!((ptE c p) != 0) && !((sdE c p) != 0)) = true):pnOk (ptR c p) = true ∧ unPn (ptR c p) = c.over.nrm.send (unPn p):=by
 obtain ⟨h1,h2,h3⟩:=tu_P pc h
 have h4:pnOk (ptR c p) = true:=by rw [h3]; exact pnOk_pnR h2
 refine ⟨h4,?_⟩
 obtain ⟨e,f⟩:=unPn_ok h4
 exact (pnR_inj h2.z f.z (h3.symm.trans e)).symm
theorem tu_k (pc:ciOk (rci c) = true) (h:(!((ptE c p) != 0) && !((sdE c p) != 0)) = true):(!((sdE c (ptR c p)) != 0)) = true:=by
 unfold sdE; rw [if_pos (tu_Q pc h).1]; rfl
theorem tu_side (pc:ciOk (rci c) = true) (h:(!((ptE c p) != 0) && !((sdE c p) != 0)) = true):sdS c (ptR c p) = -sdS c p:=by
 obtain ⟨h1,h2⟩:=tu_Q pc h
 have h3:=(tu_P pc h).1
 unfold sdS
 rw [if_pos h1,if_pos h3,h2,send_nrm (over_piv (ciOk_c pc).2.1)]
 exact side_turn (ciOk_c pc).2.1 _
theorem tu_s (pc:ciOk (rci c) = true) (h:(!((ptE c p) != 0) && !((sdE c p) != 0)) = true):(((sdS c p) == 0) != ((sdS c (ptR c p)) == 0)) = false:=by
 rw [tu_side pc h]
 have e:(-sdS c p == 0) = (sdS c p == 0):=by rw [Bool.eq_iff_iff,beq_iff_eq,beq_iff_eq]; omega
 rw [e]; simp
theorem tu_t (pc:ciOk (rci c) = true) (h:(!((ptE c p) != 0) && !((sdE c p) != 0)) = true) (h8:((sdS c (ptR c p)) == (sdS c p)) = true):((sdS c p) != 0) = false:=by
 rw [tu_side pc h] at h8
 have:=beq_iff_eq.1 h8
 have e:sdS c p = 0:=by omega
 rw [e]; rfl
theorem tu_q (pc:ciOk (rci c) = true) (h:(!((ptE c p) != 0) && !((sdE c p) != 0)) = true):((decide (ptR c p = p)) != ((sdS c p) == 0)) = false:=by
 obtain ⟨h1,h2,h3⟩:=tu_P pc h
 obtain ⟨e,f⟩:=unPn_ok h1
 have e2:sdS c p = c.side (unPn p):=by unfold sdS; rw [if_pos h1]
 have e3:decide (ptR c p = p) = (sdS c p == 0):=by
  rw [Bool.eq_iff_iff,decide_eq_true_iff,beq_iff_eq,e2,← send_stay (ciOk_c pc).2.1 f.z,h3,← send_nrm (over_piv (ciOk_c pc).2.1)]
  constructor
  ·intro k; exact pnR_inj h2.z f.z (k.trans e)
  ·intro k; rw [k]; exact e.symm
 rw [e3]; simp
theorem stI_st:stI = Mb.st:=by decide +kernel
theorem c2_is (pc:ciOk (rci c) = true) (pd:ciOk (rci d) = true) (h1:mbfits (rmb c.over.nrm) = true) (h2:mbfits (rmb d.over.nrm) = true) (h:c2E (mbcut c.over.nrm) (mbcut d.over.nrm) = 0):c2R (mbcut c.over.nrm) (mbcut d.over.nrm) = rmb (c.over.behind d.over):=by
 rw [mbcut_y h1,mbcut_y h2] at *
 unfold c2E cpX at h
 split at h
 ·rename_i hg
  unfold c2R cpR
  rw [if_pos hg]
  show rmb ((toM (rmb c.over.nrm)).1.behind ((toM (rmb d.over.nrm)).1.behind stI)) = _
  rw [toM_is (tu_o pc h1),toM_is (tu_o pd h2),stI_st,behind_st,nrm2 (over_piv (ciOk_c pd).2.1),nrm_behind _ (over_piv (ciOk_c pc).2.1),behind_nrm _ (over_piv (ciOk_c pd).2.1)]
 ·cases h
theorem c2_same (pc:ciOk (rci c) = true) (pd:ciOk (rci d) = true) (h1:(!((mberr c.over.nrm) != 0) && !((mberr d.over.nrm) != 0)) = true) (h:(!((c2E (mbcut c.over.nrm) (mbcut d.over.nrm)) != 0) && !((c2E (mbcut d.over.nrm) (mbcut c.over.nrm)) != 0)) = true) :
  c2R (mbcut c.over.nrm) (mbcut d.over.nrm) = c2R (mbcut d.over.nrm) (mbcut c.over.nrm) ↔ c.dot d = 0 ∨ c = d:=by
 obtain ⟨a,b⟩:=and2 h
 rw [c2_is pc pd (tu_f1 h1) (tu_f2 h1) a,c2_is pd pc (tu_f2 h1) (tu_f1 h1) b,← comm_iff (ciOk_c pc).2.1 (ciOk_c pd).2.1 (ciOk_c pc).2.2 (ciOk_c pd).2.2]
 exact ⟨rmb_inj,congrArg rmb⟩
theorem dot_r {x:Rat} (h:(x.num.sign == 0) = true):x = 0:=sg_zero.1 (beq_iff_eq.1 h)
theorem dot_n {x:Rat} (h:(x.num.sign == 0) = false):x ≠ 0:=fun e=>by rw [e] at h; exact absurd h (by decide)
theorem tu_c1 (pc:ciOk (rci c) = true) (pd:ciOk (rci d) = true) (h1:(!((mberr c.over.nrm) != 0) && !((mberr d.over.nrm) != 0)) = true) (h:(!((c2E (mbcut c.over.nrm) (mbcut d.over.nrm)) != 0) && !((c2E (mbcut d.over.nrm) (mbcut c.over.nrm)) != 0)) = true)
  (hr:((c.dot d).num.sign == 0) = true):((decide (c2R (mbcut c.over.nrm) (mbcut d.over.nrm) = c2R (mbcut d.over.nrm) (mbcut c.over.nrm))) != true) = false:=by
 rw [decide_eq_true ((c2_same pc pd h1 h).2 (.inl (dot_r hr)))]; rfl
theorem tu_c0 (pc:ciOk (rci c) = true) (pd:ciOk (rci d) = true) (h1:(!((mberr c.over.nrm) != 0) && !((mberr d.over.nrm) != 0)) = true) (h:(!((c2E (mbcut c.over.nrm) (mbcut d.over.nrm)) != 0) && !((c2E (mbcut d.over.nrm) (mbcut c.over.nrm)) != 0)) = true)
  (hr:((c.dot d).num.sign == 0) = false):((decide (c2R (mbcut c.over.nrm) (mbcut d.over.nrm) = c2R (mbcut d.over.nrm) (mbcut c.over.nrm))) != (decide (c = d))) = false:=by
 have e:decide (c2R (mbcut c.over.nrm) (mbcut d.over.nrm) = c2R (mbcut d.over.nrm) (mbcut c.over.nrm)) = decide (c = d):=by
  rw [Bool.eq_iff_iff,decide_eq_true_iff,decide_eq_true_iff,c2_same pc pd h1 h]
  exact ⟨fun k=>k.resolve_left (dot_n hr),.inr⟩
 rw [e]; simp
theorem ci_same (pc:ciOk (rci c) = true) (pd:ciOk (rci d) = true) (h:(!((cierr (c.over.nrm.img d).nrm) != 0)) = true):cicut (c.over.nrm.img d).nrm = rci d ↔ c.dot d = 0 ∨ c = d:=by
 have h:cierr (c.over.nrm.img d).nrm = 0:=by simpa using h
 unfold cicut
 rw [if_pos (cfit_of h),← turn_same (ciOk_c pc).2.1 (ciOk_c pd).2.1 (ciOk_c pc).2.2 (ciOk_c pd).2.2]
 exact ⟨rci_inj,congrArg rci⟩
theorem tu_d1 (pc:ciOk (rci c) = true) (pd:ciOk (rci d) = true) (h:(!((cierr (c.over.nrm.img d).nrm) != 0)) = true) (hr:((c.dot d).num.sign == 0) = true):((decide (cicut (c.over.nrm.img d).nrm = rci d)) != true) = false:=by
 rw [decide_eq_true ((ci_same pc pd h).2 (.inl (dot_r hr)))]; rfl
theorem tu_d0 (pc:ciOk (rci c) = true) (pd:ciOk (rci d) = true) (h:(!((cierr (c.over.nrm.img d).nrm) != 0)) = true) (hr:((c.dot d).num.sign == 0) = false):((decide (cicut (c.over.nrm.img d).nrm = rci d)) != (decide (c = d))) = false:=by
 have e:decide (cicut (c.over.nrm.img d).nrm = rci d) = decide (c = d):=by
  rw [Bool.eq_iff_iff,decide_eq_true_iff,decide_eq_true_iff,ci_same pc pd h]
  exact ⟨fun k=>k.resolve_left (dot_n hr),.inr⟩
 rw [e]; simp
theorem tu_w (pc:ciOk (rci c) = true) (pm:mbOk (rmb m) = true) (h1:(!((mberr c.over.nrm) != 0) && !((mberr d.over.nrm) != 0)) = true)
  (h:(!((cierr (m.img c).nrm) != 0) && !((mberr m.undo.nrm) != 0) && !((ovE (cicut (m.img c).nrm)) != 0) && !((c3E (rmb m) (mbcut c.over.nrm) (mbcut m.undo.nrm)) != 0)) = true) :
  decide (ovR (cicut (m.img c).nrm) = c3R (rmb m) (mbcut c.over.nrm) (mbcut m.undo.nrm)) = true:=by
 obtain ⟨⟨⟨a1,a2⟩,a3⟩,a4⟩:=and4 h
 refine decide_eq_true ?_
 have f1:=tu_f1 h1
 have f2:=fit_of a2
 have g1:=(mbOk_c pm).2.1
 rw [mbcut_y f1,mbcut_y f2] at *
 have e1:cicut (m.img c).nrm = rci (m.img c).nrm:=by unfold cicut; rw [if_pos (cfit_of a1)]
 rw [e1] at a3
 rw [e1]
 have hl:ovR (rci (m.img c).nrm) = rmb (m.img c).nrm.over.nrm:=by
  unfold ovE at a3
  split at a3
  ·rename_i hk
   have e2:unCi (rci (m.img c).nrm) = (m.img c).nrm:=(rci_inj (unCi_ok hk)).symm
   rw [e2] at a3
   unfold ovR
   rw [if_pos hk,e2,mbcut_y (fit_of a3)]
  ·cases a3
 rw [hl]
 unfold c3E at a4
 split at a4
 ·rename_i hk
  unfold cpX at a4
  split at a4
  ·rename_i hg
   unfold c3R cpR
   rw [if_pos hk,if_pos hg]
   show _ = rmb ((toM (rmb m)).1.behind ((toM (rmb c.over.nrm)).1.behind ((toM (rmb m.undo.nrm)).1.behind stI)))
   rw [toM_is pm,toM_is (tu_o pc f1),toM_is hk,stI_st,nrm_behind _ (undo_n g1),way_is g1 (ciOk_c pc).2.1]
  ·cases a4
 ·cases a4
end
end Go.Proofs.YtcpjdjnaipbieaaGreat
namespace Go.Proofs.YtcpjdjnaipbieaaGreat
open Go.RowKit Rgn Eng
set_option maxHeartbeats 8000000
set_option maxRecDepth 100000
variable {S:Nat → Prop} {W:World}
theorem l14ok1 {b0:Nat} (a:Int) (B0:W.heap[b0]? = some (.cells (#[.int .i64 a]) 32 (0,0))):Calls Tryz.prog 100 #[.slice (some ⟨b0,0,none⟩) 1 1] W (RetV (.bool (!(a != 0))) W):=by
 refine Run.goP (S:=Z0) (Pack.nil.b B0 (some 1) 1) Tryz.func100 rfl ?_
 refine Run.cV [.int .i64 a] kb (fun _ _ _ H=>l14Num a) ?_
 refine Run.ic a 0 (a != 0) ?_
 refine (Bool.eq_false_or_eq_true (a != 0)).elim (fun c1=>?_) (fun c1=>?_)
 · refine Run.kn c1 ?_
   exact Run.rV (V' := .bool false) ((by simp only [c1,Bool.not_true,Bool.not_false,Bool.and_false,Bool.false_and,Bool.and_true]))
 · refine Run.kn c1 ?_
   exact Run.rV (V' := .bool true) ((by simp only [c1,Bool.not_true,Bool.not_false,Bool.and_false,Bool.false_and,Bool.and_true]))
theorem l14ok2 {b0:Nat} (a:Int) (b:Int) (B0:W.heap[b0]? = some (.cells (#[.int .i64 a,.int .i64 b]) 32 (0,0))):Calls Tryz.prog 100 #[.slice (some ⟨b0,0,none⟩) 2 2] W (RetV (.bool (!(a != 0) && !(b != 0))) W):=by
 refine Run.goP (S:=Z0) (Pack.nil.b B0 (some 2) 2) Tryz.func100 rfl ?_
 refine Run.cV [.int .i64 a] kb (fun _ _ _ H=>l14Num a) ?_
 refine Run.ic a 0 (a != 0) ?_
 refine (Bool.eq_false_or_eq_true (a != 0)).elim (fun c1=>?_) (fun c1=>?_)
 · refine Run.kn c1 ?_
   exact Run.rV (V' := .bool false) ((by simp only [c1,Bool.not_true,Bool.not_false,Bool.and_false,Bool.false_and,Bool.and_true]))
 · refine Run.kn c1 ?_
   refine Run.cV [.int .i64 b] kb (fun _ _ _ H=>l14Num b) ?_
   refine Run.ic b 0 (b != 0) ?_
   refine (Bool.eq_false_or_eq_true (b != 0)).elim (fun c2=>?_) (fun c2=>?_)
   · refine Run.kn c2 ?_
     exact Run.rV (V' := .bool false) ((by simp only [c1,c2,Bool.not_true,Bool.not_false,Bool.and_false,Bool.false_and,Bool.and_true]))
   · refine Run.kn c2 ?_
     exact Run.rV (V' := .bool true) ((by simp only [c1,c2,Bool.not_true,Bool.not_false,Bool.and_false,Bool.false_and,Bool.and_true]))
theorem l14ok4 {b0:Nat} (a:Int) (b:Int) (c:Int) (d:Int) (B0:W.heap[b0]? = some (.cells (#[.int .i64 a,.int .i64 b,.int .i64 c,.int .i64 d]) 32 (0,0))):Calls Tryz.prog 100 #[.slice (some ⟨b0,0,none⟩) 4 4] W (RetV (.bool (!(a != 0) && !(b != 0) && !(c != 0) && !(d != 0))) W):=by
 refine Run.goP (S:=Z0) (Pack.nil.b B0 (some 4) 4) Tryz.func100 rfl ?_
 refine Run.cV [.int .i64 a] kb (fun _ _ _ H=>l14Num a) ?_
 refine Run.ic a 0 (a != 0) ?_
 refine (Bool.eq_false_or_eq_true (a != 0)).elim (fun c1=>?_) (fun c1=>?_)
 · refine Run.kn c1 ?_
   exact Run.rV (V' := .bool false) ((by simp only [c1,Bool.not_true,Bool.not_false,Bool.and_false,Bool.false_and,Bool.and_true]))
 · refine Run.kn c1 ?_
   refine Run.cV [.int .i64 b] kb (fun _ _ _ H=>l14Num b) ?_
   refine Run.ic b 0 (b != 0) ?_
   refine (Bool.eq_false_or_eq_true (b != 0)).elim (fun c2=>?_) (fun c2=>?_)
   · refine Run.kn c2 ?_
     exact Run.rV (V' := .bool false) ((by simp only [c1,c2,Bool.not_true,Bool.not_false,Bool.and_false,Bool.false_and,Bool.and_true]))
   · refine Run.kn c2 ?_
     refine Run.cV [.int .i64 c] kb (fun _ _ _ H=>l14Num c) ?_
     refine Run.ic c 0 (c != 0) ?_
     refine (Bool.eq_false_or_eq_true (c != 0)).elim (fun c3=>?_) (fun c3=>?_)
     · refine Run.kn c3 ?_
       exact Run.rV (V' := .bool false) ((by simp only [c1,c2,c3,Bool.not_true,Bool.not_false,Bool.and_false,Bool.false_and,Bool.and_true]))
     · refine Run.kn c3 ?_
       refine Run.cV [.int .i64 d] kb (fun _ _ _ H=>l14Num d) ?_
       refine Run.ic d 0 (d != 0) ?_
       refine (Bool.eq_false_or_eq_true (d != 0)).elim (fun c4=>?_) (fun c4=>?_)
       · refine Run.kn c4 ?_
         exact Run.rV (V' := .bool false) ((by simp only [c1,c2,c3,c4,Bool.not_true,Bool.not_false,Bool.and_false,Bool.false_and,Bool.and_true]))
       · refine Run.kn c4 ?_
         exact Run.rV (V' := .bool true) ((by simp only [c1,c2,c3,c4,Bool.not_true,Bool.not_false,Bool.and_false,Bool.false_and,Bool.and_true]))
theorem l14long5 {b0:Nat} (a:RG) (b:RG) (c:RG) (d:RG) (e:RG) (B0:W.heap[b0]? = some (.cells (⟨(rgC a).toList ++ ((rgC b).toList ++ ((rgC c).toList ++ ((rgC d).toList ++ (rgC e).toList)))⟩) 27 (0,0))):Calls Tryz.prog 23 #[.slice (some ⟨b0,0,none⟩) 5 5] W (RetV (.bool (lgG a || lgG b || lgG c || lgG d || lgG e)) W):=by
 refine Run.goP (S:=Z0) (Pack.nil.b B0 (some 5) 40) Tryz.func23 rfl ?_
 refine Run.cV [.bool (lgF a.re)] kb (fun _ _ _ H=>l14longF a.re) ?_
 refine (Bool.eq_false_or_eq_true (lgF a.re)).elim (fun c1=>?_) (fun c1=>?_)
 · refine Run.kn c1 ?_
   exact Run.rV (V' := .bool true) ((by unfold lgG; simp [c1]))
 · refine Run.kn c1 ?_
   refine Run.cV [.bool (lgF a.im)] kb (fun _ _ _ H=>l14longF a.im) ?_
   refine (Bool.eq_false_or_eq_true (lgF a.im)).elim (fun c2=>?_) (fun c2=>?_)
   · refine Run.kn c2 ?_
     exact Run.rV (V' := .bool true) ((by unfold lgG; simp [c1,c2]))
   · refine Run.kn c2 ?_
     refine Run.cV [.bool (lgF b.re)] kb (fun _ _ _ H=>l14longF b.re) ?_
     refine (Bool.eq_false_or_eq_true (lgF b.re)).elim (fun c3=>?_) (fun c3=>?_)
     · refine Run.kn c3 ?_
       exact Run.rV (V' := .bool true) ((by unfold lgG; simp [c1,c2,c3]))
     · refine Run.kn c3 ?_
       refine Run.cV [.bool (lgF b.im)] kb (fun _ _ _ H=>l14longF b.im) ?_
       refine (Bool.eq_false_or_eq_true (lgF b.im)).elim (fun c4=>?_) (fun c4=>?_)
       · refine Run.kn c4 ?_
         exact Run.rV (V' := .bool true) ((by unfold lgG; simp [c1,c2,c3,c4]))
       · refine Run.kn c4 ?_
         refine Run.cV [.bool (lgF c.re)] kb (fun _ _ _ H=>l14longF c.re) ?_
         refine (Bool.eq_false_or_eq_true (lgF c.re)).elim (fun c5=>?_) (fun c5=>?_)
         · refine Run.kn c5 ?_
           exact Run.rV (V' := .bool true) ((by unfold lgG; simp [c1,c2,c3,c4,c5]))
         · refine Run.kn c5 ?_
           refine Run.cV [.bool (lgF c.im)] kb (fun _ _ _ H=>l14longF c.im) ?_
           refine (Bool.eq_false_or_eq_true (lgF c.im)).elim (fun c6=>?_) (fun c6=>?_)
           · refine Run.kn c6 ?_
             exact Run.rV (V' := .bool true) ((by unfold lgG; simp [c1,c2,c3,c4,c5,c6]))
           · refine Run.kn c6 ?_
             refine Run.cV [.bool (lgF d.re)] kb (fun _ _ _ H=>l14longF d.re) ?_
             refine (Bool.eq_false_or_eq_true (lgF d.re)).elim (fun c7=>?_) (fun c7=>?_)
             · refine Run.kn c7 ?_
               exact Run.rV (V' := .bool true) ((by unfold lgG; simp [c1,c2,c3,c4,c5,c6,c7]))
             · refine Run.kn c7 ?_
               refine Run.cV [.bool (lgF d.im)] kb (fun _ _ _ H=>l14longF d.im) ?_
               refine (Bool.eq_false_or_eq_true (lgF d.im)).elim (fun c8=>?_) (fun c8=>?_)
               · refine Run.kn c8 ?_
                 exact Run.rV (V' := .bool true) ((by unfold lgG; simp [c1,c2,c3,c4,c5,c6,c7,c8]))
               · refine Run.kn c8 ?_
                 refine Run.cV [.bool (lgF e.re)] kb (fun _ _ _ H=>l14longF e.re) ?_
                 refine (Bool.eq_false_or_eq_true (lgF e.re)).elim (fun c9=>?_) (fun c9=>?_)
                 · refine Run.kn c9 ?_
                   exact Run.rV (V' := .bool true) ((by unfold lgG; simp [c1,c2,c3,c4,c5,c6,c7,c8,c9]))
                 · refine Run.kn c9 ?_
                   refine Run.cV [.bool (lgF e.im)] kb (fun _ _ _ H=>l14longF e.im) ?_
                   refine (Bool.eq_false_or_eq_true (lgF e.im)).elim (fun c10=>?_) (fun c10=>?_)
                   · refine Run.kn c10 ?_
                     exact Run.rV (V' := .bool true) ((by unfold lgG; simp [c1,c2,c3,c4,c5,c6,c7,c8,c9,c10]))
                   · refine Run.kn c10 ?_
                     exact Run.rV (V' := .bool false) ((by unfold lgG; simp [c1,c2,c3,c4,c5,c6,c7,c8,c9,c10]))
theorem lTu0 (c:RCi) (d:RCi) (m:RMb) (p:RPn) (p0:(lgC c || lgC d) = true):Calls Tryz.prog 12 #[rciV c,rciV d,.agg ⟨(rmbC m).toList ++ (rpnC p).toList⟩] W (RetV (.bool true) W):=by
 refine Run.goP (S:=Z0) (((Pack.nil.k (rciV c) (rciC c).toList (.s (.agg (ks 0 16)))).k (rciV d) (rciC d).toList (.s (.agg (ks 0 16)))).k (.agg ⟨(rmbC m).toList ++ (rpnC p).toList⟩) ((rmbC m).toList ++ (rpnC p).toList) (.s (.agg (ks 0 42)))) Tryz.func12 rfl ?_
 refine Run.dr ?_
 refine RunD.en ?_
 refine Run.cV [.bool (lgC c || lgC d)] kb (fun _ _ _ H=>l14wide c d (H.b 5)) ?_
 refine Run.kn p0 ?_
 refine Run.cV [] (cb true) (fun _ _ _ H=>l14works) ?_
 exact Run.rV rfl
theorem lTu1 (c:RCi) (d:RCi) (m:RMb) (p:RPn) (p0:(lgC c || lgC d) = false) (p1:(lgG p.z || lgG m.a || lgG m.b || lgG m.c || lgG m.d) = true):Calls Tryz.prog 12 #[rciV c,rciV d,.agg ⟨(rmbC m).toList ++ (rpnC p).toList⟩] W (RetV (.bool true) W):=by
 refine Run.goP (S:=Z0) (((Pack.nil.k (rciV c) (rciC c).toList (.s (.agg (ks 0 16)))).k (rciV d) (rciC d).toList (.s (.agg (ks 0 16)))).k (.agg ⟨(rmbC m).toList ++ (rpnC p).toList⟩) ((rmbC m).toList ++ (rpnC p).toList) (.s (.agg (ks 0 42)))) Tryz.func12 rfl ?_
 refine Run.dr ?_
 refine RunD.en ?_
 refine Run.cV [.bool (lgC c || lgC d)] kb (fun _ _ _ H=>l14wide c d (H.b 5)) ?_
 refine Run.kn p0 ?_
 refine Run.cV [.bool (lgG p.z || lgG m.a || lgG m.b || lgG m.c || lgG m.d)] kb (fun _ _ _ H=>l14long5 p.z m.a m.b m.c m.d (H.b 6)) ?_
 refine Run.kn p1 ?_
 refine Run.cV [] (cb true) (fun _ _ _ H=>l14works) ?_
 exact Run.rV rfl
theorem lTu2 (c:RCi) (d:RCi) (m:RMb) (p:RPn) (p0:(lgC c || lgC d) = false) (p1:(lgG p.z || lgG m.a || lgG m.b || lgG m.c || lgG m.d) = false) (p2:ciOk c = false):Calls Tryz.prog 12 #[rciV c,rciV d,.agg ⟨(rmbC m).toList ++ (rpnC p).toList⟩] W (RetV (.bool true) W):=by
 refine Run.goP (S:=Z0) (((Pack.nil.k (rciV c) (rciC c).toList (.s (.agg (ks 0 16)))).k (rciV d) (rciC d).toList (.s (.agg (ks 0 16)))).k (.agg ⟨(rmbC m).toList ++ (rpnC p).toList⟩) ((rmbC m).toList ++ (rpnC p).toList) (.s (.agg (ks 0 42)))) Tryz.func12 rfl ?_
 refine Run.dr ?_
 refine RunD.en ?_
 refine Run.cV [.bool (lgC c || lgC d)] kb (fun _ _ _ H=>l14wide c d (H.b 5)) ?_
 refine Run.kn p0 ?_
 refine Run.cV [.bool (lgG p.z || lgG m.a || lgG m.b || lgG m.c || lgG m.d)] kb (fun _ _ _ H=>l14long5 p.z m.a m.b m.c m.d (H.b 6)) ?_
 refine Run.kn p1 ?_
 refine Run.cV [] (.s (.o (.c (.int .i64 2)))) (fun _ _ _ H=>ccChkN c p2) ?_
 refine Run.cV [] (.s (.o (.c (.int .i64 2)))) (fun _ _ _ H=>l14Num 2) ?_
 refine Run.cV [] (cb true) (fun _ _ _ H=>l14works) ?_
 exact Run.rV rfl
theorem lTu3 (c:Ci) (d:RCi) (m:RMb) (p:RPn) (p0:(lgC (rci c) || lgC d) = false) (p1:(lgG p.z || lgG m.a || lgG m.b || lgG m.c || lgG m.d) = false) (p2:ciOk (rci c) = true) (p3:ciOk d = false):Calls Tryz.prog 12 #[ciV c,rciV d,.agg ⟨(rmbC m).toList ++ (rpnC p).toList⟩] W (RetV (.bool true) W):=by
 refine Run.goP (S:=Z0) (((Pack.nil.k (ciV c) (ciC c).toList (.s (.agg (ks 0 16)))).k (rciV d) (rciC d).toList (.s (.agg (ks 0 16)))).k (.agg ⟨(rmbC m).toList ++ (rpnC p).toList⟩) ((rmbC m).toList ++ (rpnC p).toList) (.s (.agg (ks 0 42)))) Tryz.func12 rfl ?_
 refine Run.dr ?_
 refine RunD.en ?_
 refine Run.cV [.bool (lgC (rci c) || lgC d)] kb (fun _ _ _ H=>l14wide (rci c) d (H.b 5)) ?_
 refine Run.kn p0 ?_
 refine Run.cV [.bool (lgG p.z || lgG m.a || lgG m.b || lgG m.c || lgG m.d)] kb (fun _ _ _ H=>l14long5 p.z m.a m.b m.c m.d (H.b 6)) ?_
 refine Run.kn p1 ?_
 refine Run.cV [] (.s (.o (.c (.int .i64 0)))) (fun _ _ _ H=>ccChkO c p2) ?_
 refine Run.cV [] (.s (.o (.c (.int .i64 0)))) (fun _ _ _ H=>l14Num 0) ?_
 refine Run.cV [] (.s (.o (.c (.int .i64 2)))) (fun _ _ _ H=>ccChkN d p3) ?_
 refine Run.cV [] (.s (.o (.c (.int .i64 2)))) (fun _ _ _ H=>l14Num 2) ?_
 refine Run.cV [] (cb true) (fun _ _ _ H=>l14works) ?_
 exact Run.rV rfl
theorem lTu4 (c:Ci) (d:Ci) (m:RMb) (p:RPn) (p0:(lgC (rci c) || lgC (rci d)) = false) (p1:(lgG p.z || lgG m.a || lgG m.b || lgG m.c || lgG m.d) = false) (p2:ciOk (rci c) = true) (p3:ciOk (rci d) = true) (p4:mbOk m = false):Calls Tryz.prog 12 #[ciV c,ciV d,.agg ⟨(rmbC m).toList ++ (rpnC p).toList⟩] W (RetV (.bool true) W):=by
 refine Run.goP (S:=Z0) (((Pack.nil.k (ciV c) (ciC c).toList (.s (.agg (ks 0 16)))).k (ciV d) (ciC d).toList (.s (.agg (ks 0 16)))).k (.agg ⟨(rmbC m).toList ++ (rpnC p).toList⟩) ((rmbC m).toList ++ (rpnC p).toList) (.s (.agg (ks 0 42)))) Tryz.func12 rfl ?_
 refine Run.dr ?_
 refine RunD.en ?_
 refine Run.cV [.bool (lgC (rci c) || lgC (rci d))] kb (fun _ _ _ H=>l14wide (rci c) (rci d) (H.b 5)) ?_
 refine Run.kn p0 ?_
 refine Run.cV [.bool (lgG p.z || lgG m.a || lgG m.b || lgG m.c || lgG m.d)] kb (fun _ _ _ H=>l14long5 p.z m.a m.b m.c m.d (H.b 6)) ?_
 refine Run.kn p1 ?_
 refine Run.cV [] (.s (.o (.c (.int .i64 0)))) (fun _ _ _ H=>ccChkO c p2) ?_
 refine Run.cV [] (.s (.o (.c (.int .i64 0)))) (fun _ _ _ H=>l14Num 0) ?_
 refine Run.cV [] (.s (.o (.c (.int .i64 0)))) (fun _ _ _ H=>ccChkO d p3) ?_
 refine Run.cV [] (.s (.o (.c (.int .i64 0)))) (fun _ _ _ H=>l14Num 0) ?_
 refine Run.cV [] (.s (.o (.c (.int .i64 2)))) (fun _ _ _ H=>mbChkN m p4) ?_
 refine Run.cV [] (.s (.o (.c (.int .i64 2)))) (fun _ _ _ H=>l14Num 2) ?_
 refine Run.cV [] (cb true) (fun _ _ _ H=>l14works) ?_
 exact Run.rV rfl
theorem lTu6 (c:Ci) (d:Ci) (m:Mb) (p:RPn) (p0:(lgC (rci c) || lgC (rci d)) = false) (p1:(lgG p.z || lgG (rg m.a) || lgG (rg m.b) || lgG (rg m.c) || lgG (rg m.d)) = false) (p2:ciOk (rci c) = true) (p3:ciOk (rci d) = true) (p4:mbOk (rmb m) = true):Calls Tryz.prog 12 #[ciV c,ciV d,.agg ⟨(mbC m).toList ++ (rpnC p).toList⟩] W (RetV (.bool true) W):=by
 refine Run.goP (S:=Z0) (((Pack.nil.k (ciV c) (ciC c).toList (.s (.agg (ks 0 16)))).k (ciV d) (ciC d).toList (.s (.agg (ks 0 16)))).k (.agg ⟨(mbC m).toList ++ (rpnC p).toList⟩) ((mbC m).toList ++ (rpnC p).toList) (.s (.agg (ks 0 42)))) Tryz.func12 rfl ?_
 refine Run.dr ?_
 refine RunD.en ?_
 refine Run.cV [.bool (lgC (rci c) || lgC (rci d))] kb (fun _ _ _ H=>l14wide (rci c) (rci d) (H.b 5)) ?_
 refine Run.kn p0 ?_
 refine Run.cV [.bool (lgG p.z || lgG (rg m.a) || lgG (rg m.b) || lgG (rg m.c) || lgG (rg m.d))] kb (fun _ _ _ H=>l14long5 p.z (rg m.a) (rg m.b) (rg m.c) (rg m.d) (H.b 6)) ?_
 refine Run.kn p1 ?_
 refine Run.cV [] (.s (.o (.c (.int .i64 0)))) (fun _ _ _ H=>ccChkO c p2) ?_
 refine Run.cV [] (.s (.o (.c (.int .i64 0)))) (fun _ _ _ H=>l14Num 0) ?_
 refine Run.cV [] (.s (.o (.c (.int .i64 0)))) (fun _ _ _ H=>ccChkO d p3) ?_
 refine Run.cV [] (.s (.o (.c (.int .i64 0)))) (fun _ _ _ H=>l14Num 0) ?_
 refine Run.cV [] (.s (.o (.c (.int .i64 0)))) (fun _ _ _ H=>mbChkO m p4) ?_
 refine Run.cV [] (.s (.o (.c (.int .i64 0)))) (fun _ _ _ H=>l14Num 0) ?_
 refine Run.cV ((rmbC (mbcut c.over.nrm)).toList ++ [.int .i64 (mberr c.over.nrm)]) (.tup [.agg (ks 0 33),.o (.k 33)]) (fun _ _ _ H=>ivOvO c p2) ?_
 refine Run.cV ((rmbC (mbcut d.over.nrm)).toList ++ [.int .i64 (mberr d.over.nrm)]) (.tup [.agg (ks 0 33),.o (.k 33)]) (fun _ _ _ H=>ivOvO d p3) ?_
 refine Run.cV [.bool (!((mberr c.over.nrm) != 0) && !((mberr d.over.nrm) != 0))] kb (fun _ _ _ H=>l14ok2 (mberr c.over.nrm) (mberr d.over.nrm) (H.b 9)) ?_
 refine (Bool.eq_false_or_eq_true (!((mberr c.over.nrm) != 0) && !((mberr d.over.nrm) != 0))).elim (fun c1=>?_) (fun c1=>?_)
 · refine Run.kn c1 ?_
   refine Run.cV (rmbC (rmb Mb.st)).toList (.tup [.agg (ks 0 33),.o (.c (.int .i64 0))]) (fun _ _ _ H=>xCh c c (H.b 10) p2 (by first | assumption | rfl) (tu_f1 c1)) ?_
   refine Run.cV ((rciC c.over.nrm.isR).toList ++ [.int .i64 c.over.nrm.isE]) (.tup [.agg (ks 0 16),.o (.k 16)]) (fun _ _ _ H=>xIs c.over.nrm (tu_f1 c1) (tu_o p2 (tu_f1 c1))) ?_
   refine Run.cut 1 ?_ (fun J1=>?_)
   · refine Run.cV ((rpnC (ptR c p)).toList ++ [.int .i64 (ptE c p)]) (.tup [.agg (ks 0 9),.o (.k 9)]) (fun _ _ _ H=>xPt c p p2) ?_
     refine Run.cV ([.int .i64 (sdS c p)] ++ [.int .i64 (sdE c p)]) (.tup [.o (.k 0),.o (.k 1)]) (fun _ _ _ H=>xSd c p p2) ?_
     refine Run.cV ([.int .i64 (sdS c (ptR c p))] ++ [.int .i64 (sdE c (ptR c p))]) (.tup [.o (.k 0),.o (.k 1)]) (fun _ _ _ H=>xSd c (ptR c p) p2) ?_
     refine Run.cut 1 ?_ (fun J2=>?_)
     · refine Run.cV ((rmbC (c2R (mbcut c.over.nrm) (mbcut d.over.nrm))).toList ++ [.int .i64 (c2E (mbcut c.over.nrm) (mbcut d.over.nrm))]) (.tup [.agg (ks 0 33),.o (.k 33)]) (fun _ _ _ H=>xC2 (mbcut c.over.nrm) (mbcut d.over.nrm) (H.b 14) (tu_oc p2 (tu_f1 c1)) (tu_oc p3 (tu_f2 c1))) ?_
       refine Run.cV ((rmbC (c2R (mbcut d.over.nrm) (mbcut c.over.nrm))).toList ++ [.int .i64 (c2E (mbcut d.over.nrm) (mbcut c.over.nrm))]) (.tup [.agg (ks 0 33),.o (.k 33)]) (fun _ _ _ H=>xC2 (mbcut d.over.nrm) (mbcut c.over.nrm) (H.b 16) (tu_oc p3 (tu_f2 c1)) (tu_oc p2 (tu_f1 c1))) ?_
       refine Run.cV [.bool ((c.dot d).num.sign == 0)] (.tup [.o (.k 0),.o (.c (.int .i64 0))]) (fun _ _ _ H=>ivRtY c d p2 p3) ?_
       refine (Bool.eq_false_or_eq_true ((c.dot d).num.sign == 0)).elim (fun c2=>?_) (fun c2=>?_)
       · refine Run.kx 277 c2 ?_
         refine Run.cut 1 ?_ (fun J3=>?_)
         · refine Run.cV ((rciC (cicut (c.over.nrm.img d).nrm)).toList ++ [.int .i64 (cierr (c.over.nrm.img d).nrm)]) (.tup [.agg (ks 0 16),.o (.k 16)]) (fun _ _ _ H=>ivCi c d p2 p3) ?_
           refine Run.cut 1 ?_ (fun J4=>?_)
           · refine Run.cV ((rciC (cicut (m.img c).nrm)).toList ++ [.int .i64 (cierr (m.img c).nrm)]) (.tup [.agg (ks 0 16),.o (.k 16)]) (fun _ _ _ H=>ccImg m c p4 p2) ?_
             refine Run.cV ((rmbC (mbcut m.undo.nrm)).toList ++ [.int .i64 (mberr m.undo.nrm)]) (.tup [.agg (ks 0 33),.o (.k 33)]) (fun _ _ _ H=>mbInv m p4) ?_
             refine Run.cV ((rmbC (ovR (cicut (m.img c).nrm))).toList ++ [.int .i64 (ovE (cicut (m.img c).nrm))]) (.tup [.agg (ks 0 33),.o (.k 33)]) (fun _ _ _ H=>xOv (cicut (m.img c).nrm)) ?_
             refine Run.cV ((rmbC (c3R (rmb m) (mbcut c.over.nrm) (mbcut m.undo.nrm))).toList ++ [.int .i64 (c3E (rmb m) (mbcut c.over.nrm) (mbcut m.undo.nrm))]) (.tup [.agg (ks 0 33),.o (.k 33)]) (fun _ _ _ H=>xC3 (rmb m) (mbcut c.over.nrm) (mbcut m.undo.nrm) (H.b 22) p4 (tu_oc p2 (tu_f1 c1))) ?_
             refine Run.cV [.bool (!((cierr (m.img c).nrm) != 0) && !((mberr m.undo.nrm) != 0) && !((ovE (cicut (m.img c).nrm)) != 0) && !((c3E (rmb m) (mbcut c.over.nrm) (mbcut m.undo.nrm)) != 0))] kb (fun _ _ _ H=>l14ok4 (cierr (m.img c).nrm) (mberr m.undo.nrm) (ovE (cicut (m.img c).nrm)) (c3E (rmb m) (mbcut c.over.nrm) (mbcut m.undo.nrm)) (H.b 24)) ?_
             refine (Bool.eq_false_or_eq_true (!((cierr (m.img c).nrm) != 0) && !((mberr m.undo.nrm) != 0) && !((ovE (cicut (m.img c).nrm)) != 0) && !((c3E (rmb m) (mbcut c.over.nrm) (mbcut m.undo.nrm)) != 0))).elim (fun c3=>?_) (fun c3=>?_)
             · refine Run.kn c3 ?_
               refine Run.bi [] (cb true) (fun _ _ _ o1 o2 _ ho hx hy=>ex_eql_mb (r:=ovR (cicut (m.img c).nrm)) (q:=c3R (rmb m) (mbcut c.over.nrm) (mbcut m.undo.nrm)) o1 o2 ho hx hy (tu_w p2 p4 c1 c3)) ?_
               refine Run.cV [] (cb true) (fun _ _ _ H=>l14works) ?_
               exact Run.rV rfl
             · refine Run.kn c3 ?_
               refine Run.cV [] (cb true) (fun _ _ _ H=>l14works) ?_
               exact Run.rV rfl
           · refine (Bool.eq_false_or_eq_true (!((cierr (c.over.nrm.img d).nrm) != 0))).elim (fun c4=>?_) (fun c4=>?_)
             · refine Run.dr ?_
               refine RunD.cV [] (cb true) (fun _ _ _ H=>l14ok1 (cierr (c.over.nrm.img d).nrm) (H.b 19)) ?_ (hV:=fun _ _=>congrArg Value.bool c4)
               refine RunD.bi [.bool (decide (cicut (c.over.nrm.img d).nrm = rci d))] kb (fun _ _ _ o1 o2 _ ho hx hy=>ex_eql_ci (r:=cicut (c.over.nrm.img d).nrm) (q:=(rci d)) o1 o2 ho hx hy rfl) ?_
               refine RunD.bi [] (cb false) (fun _ _ _ o1 o2 _ ho hx hy=>ex_neq_bool (t:=4) (decide (cicut (c.over.nrm.img d).nrm = rci d)) true Tryz.underlying4 ho hx hy) ?_ (hV:=fun _ _=>congrArg Value.bool (tu_d1 p2 p3 c4 c2))
               refine RunD.en ?_
               refine Run.to 2 ?_
               exact Run.as id id J4 (hc:=by kernel_rfl) (hk:=by kernel_rfl)
             · refine Run.dr ?_
               refine RunD.cV [] (cb false) (fun _ _ _ H=>l14ok1 (cierr (c.over.nrm.img d).nrm) (H.b 19)) ?_ (hV:=fun _ _=>congrArg Value.bool c4)
               refine RunD.en ?_
               refine Run.to 2 ?_
               exact Run.as id id J4 (hc:=by kernel_rfl) (hk:=by kernel_rfl)
         · refine (Bool.eq_false_or_eq_true (!((c2E (mbcut c.over.nrm) (mbcut d.over.nrm)) != 0) && !((c2E (mbcut d.over.nrm) (mbcut c.over.nrm)) != 0))).elim (fun c5=>?_) (fun c5=>?_)
           · refine Run.dr ?_
             refine RunD.cV [] (cb true) (fun _ _ _ H=>l14ok1 0 (H.b 18)) ?_ (hV:=fun _ _=>congrArg Value.bool rfl)
             refine RunD.cV [] (cb true) (fun _ _ _ H=>l14ok2 (c2E (mbcut c.over.nrm) (mbcut d.over.nrm)) (c2E (mbcut d.over.nrm) (mbcut c.over.nrm)) (H.b 19)) ?_ (hV:=fun _ _=>congrArg Value.bool c5)
             refine RunD.bi [.bool (decide (c2R (mbcut c.over.nrm) (mbcut d.over.nrm) = c2R (mbcut d.over.nrm) (mbcut c.over.nrm)))] kb (fun _ _ _ o1 o2 _ ho hx hy=>ex_eql_mb (r:=c2R (mbcut c.over.nrm) (mbcut d.over.nrm)) (q:=c2R (mbcut d.over.nrm) (mbcut c.over.nrm)) o1 o2 ho hx hy rfl) ?_
             refine RunD.bi [] (cb false) (fun _ _ _ o1 o2 _ ho hx hy=>ex_neq_bool (t:=4) (decide (c2R (mbcut c.over.nrm) (mbcut d.over.nrm) = c2R (mbcut d.over.nrm) (mbcut c.over.nrm))) true Tryz.underlying4 ho hx hy) ?_ (hV:=fun _ _=>congrArg Value.bool (tu_c1 p2 p3 c1 c5 c2))
             refine RunD.en ?_
             refine Run.to 2 ?_
             exact Run.as id id J3 (hc:=by kernel_rfl) (hk:=by kernel_rfl)
           · refine Run.dr ?_
             refine RunD.cV [] (cb true) (fun _ _ _ H=>l14ok1 0 (H.b 18)) ?_ (hV:=fun _ _=>congrArg Value.bool rfl)
             refine RunD.cV [] (cb false) (fun _ _ _ H=>l14ok2 (c2E (mbcut c.over.nrm) (mbcut d.over.nrm)) (c2E (mbcut d.over.nrm) (mbcut c.over.nrm)) (H.b 19)) ?_ (hV:=fun _ _=>congrArg Value.bool c5)
             refine RunD.en ?_
             refine Run.to 2 ?_
             exact Run.as id id J3 (hc:=by kernel_rfl) (hk:=by kernel_rfl)
       · refine Run.kx 277 c2 ?_
         refine Run.cut 1 ?_ (fun J5=>?_)
         · refine Run.cV ((rciC (cicut (c.over.nrm.img d).nrm)).toList ++ [.int .i64 (cierr (c.over.nrm.img d).nrm)]) (.tup [.agg (ks 0 16),.o (.k 16)]) (fun _ _ _ H=>ivCi c d p2 p3) ?_
           refine Run.cut 1 ?_ (fun J6=>?_)
           · refine Run.cV ((rciC (cicut (m.img c).nrm)).toList ++ [.int .i64 (cierr (m.img c).nrm)]) (.tup [.agg (ks 0 16),.o (.k 16)]) (fun _ _ _ H=>ccImg m c p4 p2) ?_
             refine Run.cV ((rmbC (mbcut m.undo.nrm)).toList ++ [.int .i64 (mberr m.undo.nrm)]) (.tup [.agg (ks 0 33),.o (.k 33)]) (fun _ _ _ H=>mbInv m p4) ?_
             refine Run.cV ((rmbC (ovR (cicut (m.img c).nrm))).toList ++ [.int .i64 (ovE (cicut (m.img c).nrm))]) (.tup [.agg (ks 0 33),.o (.k 33)]) (fun _ _ _ H=>xOv (cicut (m.img c).nrm)) ?_
             refine Run.cV ((rmbC (c3R (rmb m) (mbcut c.over.nrm) (mbcut m.undo.nrm))).toList ++ [.int .i64 (c3E (rmb m) (mbcut c.over.nrm) (mbcut m.undo.nrm))]) (.tup [.agg (ks 0 33),.o (.k 33)]) (fun _ _ _ H=>xC3 (rmb m) (mbcut c.over.nrm) (mbcut m.undo.nrm) (H.b 22) p4 (tu_oc p2 (tu_f1 c1))) ?_
             refine Run.cV [.bool (!((cierr (m.img c).nrm) != 0) && !((mberr m.undo.nrm) != 0) && !((ovE (cicut (m.img c).nrm)) != 0) && !((c3E (rmb m) (mbcut c.over.nrm) (mbcut m.undo.nrm)) != 0))] kb (fun _ _ _ H=>l14ok4 (cierr (m.img c).nrm) (mberr m.undo.nrm) (ovE (cicut (m.img c).nrm)) (c3E (rmb m) (mbcut c.over.nrm) (mbcut m.undo.nrm)) (H.b 24)) ?_
             refine (Bool.eq_false_or_eq_true (!((cierr (m.img c).nrm) != 0) && !((mberr m.undo.nrm) != 0) && !((ovE (cicut (m.img c).nrm)) != 0) && !((c3E (rmb m) (mbcut c.over.nrm) (mbcut m.undo.nrm)) != 0))).elim (fun c6=>?_) (fun c6=>?_)
             · refine Run.kn c6 ?_
               refine Run.bi [] (cb true) (fun _ _ _ o1 o2 _ ho hx hy=>ex_eql_mb (r:=ovR (cicut (m.img c).nrm)) (q:=c3R (rmb m) (mbcut c.over.nrm) (mbcut m.undo.nrm)) o1 o2 ho hx hy (tu_w p2 p4 c1 c6)) ?_
               refine Run.cV [] (cb true) (fun _ _ _ H=>l14works) ?_
               exact Run.rV rfl
             · refine Run.kn c6 ?_
               refine Run.cV [] (cb true) (fun _ _ _ H=>l14works) ?_
               exact Run.rV rfl
           · refine (Bool.eq_false_or_eq_true (!((cierr (c.over.nrm.img d).nrm) != 0))).elim (fun c7=>?_) (fun c7=>?_)
             · refine Run.dr ?_
               refine RunD.cV [] (cb true) (fun _ _ _ H=>l14ok1 (cierr (c.over.nrm.img d).nrm) (H.b 19)) ?_ (hV:=fun _ _=>congrArg Value.bool c7)
               refine RunD.bi [.bool (decide (cicut (c.over.nrm.img d).nrm = rci d))] kb (fun _ _ _ o1 o2 _ ho hx hy=>ex_eql_ci (r:=cicut (c.over.nrm.img d).nrm) (q:=(rci d)) o1 o2 ho hx hy rfl) ?_
               refine RunD.bi [.bool (decide (c = d))] kb (fun _ _ _ o1 o2 _ ho hx hy=>ex_eql_ci (r:=(rci c)) (q:=(rci d)) o1 o2 ho hx hy (rci_dec c d)) ?_
               refine RunD.bi [] (cb false) (fun _ _ _ o1 o2 _ ho hx hy=>ex_neq_bool (t:=4) (decide (cicut (c.over.nrm.img d).nrm = rci d)) (decide (c = d)) Tryz.underlying4 ho hx hy) ?_ (hV:=fun _ _=>congrArg Value.bool (tu_d0 p2 p3 c7 c2))
               refine RunD.en ?_
               refine Run.to 2 ?_
               exact Run.as id id J6 (hc:=by kernel_rfl) (hk:=by kernel_rfl)
             · refine Run.dr ?_
               refine RunD.cV [] (cb false) (fun _ _ _ H=>l14ok1 (cierr (c.over.nrm.img d).nrm) (H.b 19)) ?_ (hV:=fun _ _=>congrArg Value.bool c7)
               refine RunD.en ?_
               refine Run.to 2 ?_
               exact Run.as id id J6 (hc:=by kernel_rfl) (hk:=by kernel_rfl)
         · refine (Bool.eq_false_or_eq_true (!((c2E (mbcut c.over.nrm) (mbcut d.over.nrm)) != 0) && !((c2E (mbcut d.over.nrm) (mbcut c.over.nrm)) != 0))).elim (fun c8=>?_) (fun c8=>?_)
           · refine Run.dr ?_
             refine RunD.cV [] (cb true) (fun _ _ _ H=>l14ok1 0 (H.b 18)) ?_ (hV:=fun _ _=>congrArg Value.bool rfl)
             refine RunD.cV [] (cb true) (fun _ _ _ H=>l14ok2 (c2E (mbcut c.over.nrm) (mbcut d.over.nrm)) (c2E (mbcut d.over.nrm) (mbcut c.over.nrm)) (H.b 19)) ?_ (hV:=fun _ _=>congrArg Value.bool c8)
             refine RunD.bi [.bool (decide (c2R (mbcut c.over.nrm) (mbcut d.over.nrm) = c2R (mbcut d.over.nrm) (mbcut c.over.nrm)))] kb (fun _ _ _ o1 o2 _ ho hx hy=>ex_eql_mb (r:=c2R (mbcut c.over.nrm) (mbcut d.over.nrm)) (q:=c2R (mbcut d.over.nrm) (mbcut c.over.nrm)) o1 o2 ho hx hy rfl) ?_
             refine RunD.bi [.bool (decide (c = d))] kb (fun _ _ _ o1 o2 _ ho hx hy=>ex_eql_ci (r:=(rci c)) (q:=(rci d)) o1 o2 ho hx hy (rci_dec c d)) ?_
             refine RunD.bi [] (cb false) (fun _ _ _ o1 o2 _ ho hx hy=>ex_neq_bool (t:=4) (decide (c2R (mbcut c.over.nrm) (mbcut d.over.nrm) = c2R (mbcut d.over.nrm) (mbcut c.over.nrm))) (decide (c = d)) Tryz.underlying4 ho hx hy) ?_ (hV:=fun _ _=>congrArg Value.bool (tu_c0 p2 p3 c1 c8 c2))
             refine RunD.en ?_
             refine Run.to 2 ?_
             exact Run.as id id J5 (hc:=by kernel_rfl) (hk:=by kernel_rfl)
           · refine Run.dr ?_
             refine RunD.cV [] (cb true) (fun _ _ _ H=>l14ok1 0 (H.b 18)) ?_ (hV:=fun _ _=>congrArg Value.bool rfl)
             refine RunD.cV [] (cb false) (fun _ _ _ H=>l14ok2 (c2E (mbcut c.over.nrm) (mbcut d.over.nrm)) (c2E (mbcut d.over.nrm) (mbcut c.over.nrm)) (H.b 19)) ?_ (hV:=fun _ _=>congrArg Value.bool c8)
             refine RunD.en ?_
             refine Run.to 2 ?_
             exact Run.as id id J5 (hc:=by kernel_rfl) (hk:=by kernel_rfl)
     · refine (Bool.eq_false_or_eq_true (!((ptE c p) != 0) && !((sdE c p) != 0))).elim (fun c9=>?_) (fun c9=>?_)
       · refine (Bool.eq_false_or_eq_true ((sdS c (ptR c p)) == (sdS c p))).elim (fun c10=>?_) (fun c10=>?_)
         · refine Run.dr ?_
           refine RunD.cV [] (cb true) (fun _ _ _ H=>l14ok2 (ptE c p) (sdE c p) (H.b 14)) ?_ (hV:=fun _ _=>congrArg Value.bool c9)
           refine RunD.cV [] (cb true) (fun _ _ _ H=>l14ok1 (sdE c (ptR c p)) (H.b 15)) ?_ (hV:=fun _ _=>congrArg Value.bool (tu_k p2 c9))
           refine RunD.bi [.bool (decide (ptR c p = p))] kb (fun _ _ _ o1 o2 _ ho hx hy=>ex_eql_pn (r:=ptR c p) (q:=p) o1 o2 ho hx hy rfl) ?_
           refine RunD.bi [.bool ((sdS c p) == 0)] kb (fun _ _ _ o1 o2 _ ho hx hy=>ex_icmp .eql 3 (sdS c p) 0 (kk:=.i64) rfl ho hx hy) ?_
           refine RunD.bi [] (cb false) (fun _ _ _ o1 o2 _ ho hx hy=>ex_neq_bool (t:=4) (decide (ptR c p = p)) ((sdS c p) == 0) Tryz.underlying4 ho hx hy) ?_ (hV:=fun _ _=>congrArg Value.bool (tu_q p2 c9))
           refine RunD.bi [.bool ((sdS c p) == 0)] kb (fun _ _ _ o1 o2 _ ho hx hy=>ex_icmp .eql 3 (sdS c p) 0 (kk:=.i64) rfl ho hx hy) ?_
           refine RunD.bi [.bool ((sdS c (ptR c p)) == 0)] kb (fun _ _ _ o1 o2 _ ho hx hy=>ex_icmp .eql 3 (sdS c (ptR c p)) 0 (kk:=.i64) rfl ho hx hy) ?_
           refine RunD.bi [] (cb false) (fun _ _ _ o1 o2 _ ho hx hy=>ex_neq_bool (t:=4) ((sdS c p) == 0) ((sdS c (ptR c p)) == 0) Tryz.underlying4 ho hx hy) ?_ (hV:=fun _ _=>congrArg Value.bool (tu_s p2 c9))
           refine RunD.bi [] (cb true) (fun _ _ _ o1 o2 _ ho hx hy=>ex_icmp .eql 3 (sdS c (ptR c p)) (sdS c p) (kk:=.i64) rfl ho hx hy) ?_ (hV:=fun _ _=>congrArg Value.bool c10)
           refine RunD.bi [] (cb false) (fun _ _ _ o1 o2 _ ho hx hy=>ex_icmp .neq 3 (sdS c p) 0 (kk:=.i64) rfl ho hx hy) ?_ (hV:=fun _ _=>congrArg Value.bool (tu_t p2 c9 c10))
           refine RunD.en ?_
           refine Run.to 2 ?_
           exact Run.as id id J2 (hc:=by kernel_rfl) (hk:=by kernel_rfl)
         · refine Run.dr ?_
           refine RunD.cV [] (cb true) (fun _ _ _ H=>l14ok2 (ptE c p) (sdE c p) (H.b 14)) ?_ (hV:=fun _ _=>congrArg Value.bool c9)
           refine RunD.cV [] (cb true) (fun _ _ _ H=>l14ok1 (sdE c (ptR c p)) (H.b 15)) ?_ (hV:=fun _ _=>congrArg Value.bool (tu_k p2 c9))
           refine RunD.bi [.bool (decide (ptR c p = p))] kb (fun _ _ _ o1 o2 _ ho hx hy=>ex_eql_pn (r:=ptR c p) (q:=p) o1 o2 ho hx hy rfl) ?_
           refine RunD.bi [.bool ((sdS c p) == 0)] kb (fun _ _ _ o1 o2 _ ho hx hy=>ex_icmp .eql 3 (sdS c p) 0 (kk:=.i64) rfl ho hx hy) ?_
           refine RunD.bi [] (cb false) (fun _ _ _ o1 o2 _ ho hx hy=>ex_neq_bool (t:=4) (decide (ptR c p = p)) ((sdS c p) == 0) Tryz.underlying4 ho hx hy) ?_ (hV:=fun _ _=>congrArg Value.bool (tu_q p2 c9))
           refine RunD.bi [.bool ((sdS c p) == 0)] kb (fun _ _ _ o1 o2 _ ho hx hy=>ex_icmp .eql 3 (sdS c p) 0 (kk:=.i64) rfl ho hx hy) ?_
           refine RunD.bi [.bool ((sdS c (ptR c p)) == 0)] kb (fun _ _ _ o1 o2 _ ho hx hy=>ex_icmp .eql 3 (sdS c (ptR c p)) 0 (kk:=.i64) rfl ho hx hy) ?_
           refine RunD.bi [] (cb false) (fun _ _ _ o1 o2 _ ho hx hy=>ex_neq_bool (t:=4) ((sdS c p) == 0) ((sdS c (ptR c p)) == 0) Tryz.underlying4 ho hx hy) ?_ (hV:=fun _ _=>congrArg Value.bool (tu_s p2 c9))
           refine RunD.bi [] (cb false) (fun _ _ _ o1 o2 _ ho hx hy=>ex_icmp .eql 3 (sdS c (ptR c p)) (sdS c p) (kk:=.i64) rfl ho hx hy) ?_ (hV:=fun _ _=>congrArg Value.bool c10)
           refine RunD.en ?_
           refine Run.to 2 ?_
           exact Run.as id id J2 (hc:=by kernel_rfl) (hk:=by kernel_rfl)
       · refine Run.dr ?_
         refine RunD.cV [] (cb false) (fun _ _ _ H=>l14ok2 (ptE c p) (sdE c p) (H.b 14)) ?_ (hV:=fun _ _=>congrArg Value.bool c9)
         refine RunD.en ?_
         refine Run.to 2 ?_
         exact Run.as id id J2 (hc:=by kernel_rfl) (hk:=by kernel_rfl)
   · refine Run.dr ?_
     refine RunD.cV [] (cb true) (fun _ _ _ H=>l14ok2 0 c.over.nrm.isE (H.b 13)) ?_ (hV:=fun _ _=>congrArg Value.bool (tu_e p2))
     refine RunD.cV (rmbC (rmb Mb.st)).toList (.s (.agg (ks 0 33))) (fun _ _ _ H=>mbOne) ?_
     refine RunD.bi [] (cb false) (fun _ _ _ o1 o2 _ ho hx hy=>ex_neq_mb (r:=rmb Mb.st) (q:=rmb Mb.st) o1 o2 ho hx hy (decide_eq_true rfl)) ?_
     refine RunD.bi [] (cb false) (fun _ _ _ o1 o2 _ ho hx hy=>ex_neq_ci (r:=c.over.nrm.isR) (q:=(rci c)) o1 o2 ho hx hy rfl) ?_ (hV:=fun _ _=>congrArg Value.bool (tu_r p2))
     refine RunD.en ?_
     refine Run.to 2 ?_
     exact Run.as id id J1 (hc:=by kernel_rfl) (hk:=by kernel_rfl)
 · refine Run.kn c1 ?_
   refine Run.cV [.int .i64 (mberr c.over.nrm)] kb (fun _ _ _ H=>l14Num (mberr c.over.nrm)) ?_
   refine Run.ic (mberr c.over.nrm) 4 ((mberr c.over.nrm) == 4) ?_
   refine (Bool.eq_false_or_eq_true ((mberr c.over.nrm) == 4)).elim (fun c11=>?_) (fun c11=>?_)
   · refine Run.kn c11 ?_
     refine Run.cV [] (cb true) (fun _ _ _ H=>l14works) ?_
     exact Run.rV rfl
   · refine Run.kn c11 ?_
     refine Run.cV [.int .i64 (mberr d.over.nrm)] kb (fun _ _ _ H=>l14Num (mberr d.over.nrm)) ?_
     refine Run.ic (mberr d.over.nrm) 4 ((mberr d.over.nrm) == 4) ?_
     refine (Bool.eq_false_or_eq_true ((mberr d.over.nrm) == 4)).elim (fun c12=>?_) (fun c12=>?_)
     · refine Run.kn c12 ?_
       refine Run.cV [] (cb true) (fun _ _ _ H=>l14works) ?_
       exact Run.rV rfl
     · refine Run.kn c12 ?_
       exact Run.rV (tu_5 c1 c11 c12)
end Go.Proofs.YtcpjdjnaipbieaaGreat
namespace Go.Proofs.YtcpjdjnaipbieaaGreat
open Go.ChangeShapes Go.WideShapes Go.ChangeAt Go.RowKit
theorem list2 {cs:List Value} (h:cs.length = 2):∃ a b,cs = [a,b]:=by
 match cs,h with
 | [a,b],_=>exact ⟨a,b,rfl⟩
theorem list4 {cs:List Value} (h:cs.length = 4):∃ a b c d,cs = [a,b,c,d]:=by
 match cs,h with
 | [a,b,c,d],_=>exact ⟨a,b,c,d,rfl⟩
theorem list8 {cs:List Value} (h:cs.length = 8):∃ a b c d e f g i,cs = [a,b,c,d,e,f,g,i]:=by
 match cs,h with
 | [a,b,c,d,e,f,g,i],_=>exact ⟨a,b,c,d,e,f,g,i,rfl⟩
section
variable {H:Type} {enc:TypeId × Value → H} {w:World} {base:Nat} {spare:Nat → Bool} {held:Bool}
theorem rd_whole {fuel:Nat} {cs:List Value} {x:DataW H × List MemPlace} (h:DataW.trod enc Tryz.prog w base spare held fuel 23 cs = some x):∃ r:RW,cs = (rwC r).toList:=by
 obtain ⟨y0,y1,n,_,hl,h0,h1⟩:=trod_struct2 Tryz.underlying23 h
 obtain ⟨b,e0,_⟩:=DataW.trod_bool Tryz.underlying4 h0
 obtain ⟨s,e1,_,_⟩:=DataW.trod_string Tryz.underlying9 h1
 rw [show Tryz.prog.cellsOf 23 = 2 by kernel_rfl] at hl
 rw [show Tryz.prog.cellsOf 4 = 1 by kernel_rfl] at e0
 rw [show Tryz.prog.cellsOf 9 = 1 by kernel_rfl] at e1
 obtain ⟨u,v,rfl⟩:=list2 hl
 simp only [List.drop_zero,List.take_succ_cons,List.take_zero,List.cons.injEq,and_true] at e0
 simp only [List.drop_succ_cons,List.drop_zero,List.take_succ_cons,List.take_zero,List.cons.injEq,and_true] at e1
 subst e0; subst e1
 exact ⟨⟨b,s⟩,rfl⟩
theorem rd_frac {fuel:Nat} {cs:List Value} {x:DataW H × List MemPlace} (h:DataW.trod enc Tryz.prog w base spare held fuel 25 cs = some x):∃ r:RF,cs = (rfC r).toList:=by
 obtain ⟨y0,y1,n,_,hl,h0,h1⟩:=trod_struct2 Tryz.underlying25 h
 obtain ⟨a,e0⟩:=rd_whole h0
 obtain ⟨b,e1⟩:=rd_whole h1
 rw [show Tryz.prog.cellsOf 25 = 4 by kernel_rfl] at hl
 rw [show Tryz.prog.cellsOf 23 = 2 by kernel_rfl] at e0 e1
 obtain ⟨u0,u1,u2,u3,rfl⟩:=list4 hl
 simp only [List.drop_zero,List.drop_succ_cons,List.take_succ_cons,List.take_zero,List.cons.injEq,and_true] at e0 e1
 obtain ⟨rfl,rfl⟩:=e0
 obtain ⟨rfl,rfl⟩:=e1
 exact ⟨⟨a,b⟩,rfl⟩
theorem rd_gauss {fuel:Nat} {cs:List Value} {x:DataW H × List MemPlace} (h:DataW.trod enc Tryz.prog w base spare held fuel 27 cs = some x):∃ r:RG,cs = (rgC r).toList:=by
 obtain ⟨y0,y1,n,_,hl,h0,h1⟩:=trod_struct2 Tryz.underlying27 h
 obtain ⟨a,e0⟩:=rd_frac h0
 obtain ⟨b,e1⟩:=rd_frac h1
 rw [show Tryz.prog.cellsOf 27 = 8 by kernel_rfl] at hl
 rw [show Tryz.prog.cellsOf 25 = 4 by kernel_rfl] at e0 e1
 obtain ⟨u0,u1,u2,u3,u4,u5,u6,u7,rfl⟩:=list8 hl
 simp only [List.drop_zero,List.drop_succ_cons,List.take_succ_cons,List.take_zero,List.cons.injEq,and_true] at e0 e1
 obtain ⟨rfl,rfl,rfl,rfl⟩:=e0
 obtain ⟨rfl,rfl,rfl,rfl⟩:=e1
 exact ⟨⟨a,b⟩,rfl⟩
end
section
variable {H:Type} {enc:TypeId × Value → H} {w:World} {base:Nat} {spare:Nat → Bool} {held:Bool}
theorem trod_struct5 {P:Program} {t:TypeId} {f0 f1 f2 f3 f4:Field} {fuel:Nat} {cs:List Value} {x:DataW H × List MemPlace} (ht:P.underlying t = some (.struct #[f0,f1,f2,f3,f4])) (h:DataW.trod enc P w base spare held fuel t cs = some x) :
  ∃ y0 y1 y2 y3 y4 n,cs.length = P.cellsOf t ∧ DataW.trod enc P w base spare held n f0.type ((cs.drop f0.offset).take (P.cellsOf f0.type)) = some y0 ∧
   DataW.trod enc P w base spare held n f1.type ((cs.drop f1.offset).take (P.cellsOf f1.type)) = some y1 ∧
   DataW.trod enc P w base spare held n f2.type ((cs.drop f2.offset).take (P.cellsOf f2.type)) = some y2 ∧
   DataW.trod enc P w base spare held n f3.type ((cs.drop f3.offset).take (P.cellsOf f3.type)) = some y3 ∧
   DataW.trod enc P w base spare held n f4.type ((cs.drop f4.offset).take (P.cellsOf f4.type)) = some y4:=by
 obtain ⟨xs,n,_,_,hl,hlen,hf⟩:=DataW.trod_struct ht h
 match xs,hlen with
 | [y0,y1,y2,y3,y4],_=>exact ⟨y0,y1,y2,y3,y4,n,hl,by simpa using hf 0 f0 rfl,by simpa using hf 1 f1 rfl,by simpa using hf 2 f2 rfl,by simpa using hf 3 f3 rfl,by simpa using hf 4 f4 rfl⟩
theorem cut5 {α:Type} (cs:List α):cs = (cs.drop 0).take 8 ++ ((cs.drop 8).take 8 ++ ((cs.drop 16).take 8 ++ ((cs.drop 24).take 8 ++ cs.drop 32))):=by
 have h:∀ n k,cs.drop n = (cs.drop n).take k ++ cs.drop (n + k):=fun n k=>by rw [← List.drop_drop]; exact (List.take_append_drop k _).symm
 rw [← h 24 8,← h 16 8,← h 8 8,← h 0 8,List.drop_zero]
theorem rd_mob {fuel:Nat} {cs:List Value} {x:DataW H × List MemPlace} (h:DataW.trod enc Tryz.prog w base spare held fuel 44 cs = some x):∃ r:RMb,cs = (rmbC r).toList:=by
 obtain ⟨y0,y1,y2,y3,y4,n,hl,h0,h1,h2,h3,h4⟩:=trod_struct5 Tryz.underlying44 h
 obtain ⟨a,e0⟩:=rd_gauss h0
 obtain ⟨b,e1⟩:=rd_gauss h1
 obtain ⟨c,e2⟩:=rd_gauss h2
 obtain ⟨d,e3⟩:=rd_gauss h3
 obtain ⟨t,e4,_⟩:=DataW.trod_bool Tryz.underlying4 h4
 rw [show Tryz.prog.cellsOf 44 = 33 by kernel_rfl] at hl
 rw [show Tryz.prog.cellsOf 27 = 8 by kernel_rfl] at e0 e1 e2 e3
 rw [show Tryz.prog.cellsOf 4 = 1 by kernel_rfl] at e4
 refine ⟨⟨a,b,c,d,t⟩,?_⟩
 rw [cut5 cs]
 have e5:cs.drop 32 = [.bool t]:=by
  rw [← e4]
  exact (List.take_of_length_le (by rw [List.length_drop,hl]; decide)).symm
 have e0' : (cs.drop 0).take 8 = _:=e0
 have e1' : (cs.drop 8).take 8 = _:=e1
 have e2' : (cs.drop 16).take 8 = _:=e2
 have e3' : (cs.drop 24).take 8 = _:=e3
 rw [e5,e0', e1', e2', e3']
 rfl
end
section
variable {H:Type} {enc:TypeId × Value → H} {w:World} {base:Nat} {spare:Nat → Bool} {held:Bool}
theorem trod_struct3 {P:Program} {t:TypeId} {f0 f1 f2:Field} {fuel:Nat} {cs:List Value} {x:DataW H × List MemPlace} (ht:P.underlying t = some (.struct #[f0,f1,f2])) (h:DataW.trod enc P w base spare held fuel t cs = some x) :
  ∃ y0 y1 y2 n,cs.length = P.cellsOf t ∧ DataW.trod enc P w base spare held n f0.type ((cs.drop f0.offset).take (P.cellsOf f0.type)) = some y0 ∧
   DataW.trod enc P w base spare held n f1.type ((cs.drop f1.offset).take (P.cellsOf f1.type)) = some y1 ∧
   DataW.trod enc P w base spare held n f2.type ((cs.drop f2.offset).take (P.cellsOf f2.type)) = some y2:=by
 obtain ⟨xs,n,_,_,hl,hlen,hf⟩:=DataW.trod_struct ht h
 match xs,hlen with
 | [y0,y1,y2],_=>exact ⟨y0,y1,y2,n,hl,by simpa using hf 0 f0 rfl,by simpa using hf 1 f1 rfl,by simpa using hf 2 f2 rfl⟩
theorem cut_at {α:Type} (cs:List α) (n k:Nat):cs.drop n = (cs.drop n).take k ++ cs.drop (n + k):=by rw [← List.drop_drop]; exact (List.take_append_drop k _).symm
theorem rd_circ {fuel:Nat} {cs:List Value} {x:DataW H × List MemPlace} (h:DataW.trod enc Tryz.prog w base spare held fuel 47 cs = some x):∃ r:RCi,cs = (rciC r).toList:=by
 obtain ⟨y0,y1,y2,n,hl,h0,h1,h2⟩:=trod_struct3 Tryz.underlying47 h
 obtain ⟨a,e0⟩:=rd_frac h0
 obtain ⟨b,e1⟩:=rd_gauss h1
 obtain ⟨c,e2⟩:=rd_frac h2
 rw [show Tryz.prog.cellsOf 47 = 16 by kernel_rfl] at hl
 rw [show Tryz.prog.cellsOf 25 = 4 by kernel_rfl] at e0 e2
 rw [show Tryz.prog.cellsOf 27 = 8 by kernel_rfl] at e1
 refine ⟨⟨a,b,c⟩,?_⟩
 have e0' : (cs.drop 0).take 4 = _:=e0
 have e1' : (cs.drop 4).take 8 = _:=e1
 have e2' : (cs.drop 12).take 4 = _:=e2
 have e3:cs.drop 12 = (cs.drop 12).take 4:=(List.take_of_length_le (by rw [List.length_drop,hl]; decide)).symm
 have e:cs = (cs.drop 0).take 4 ++ ((cs.drop 4).take 8 ++ cs.drop 12):=by
  rw [← cut_at cs 4 8,← cut_at cs 0 4,List.drop_zero]
 rw [e,e3,e0', e1', e2']
 rfl
set_option maxRecDepth 100000 in
theorem open_circ {r:Reach} {b0:Nat} {v:Value} {d:DataW H} {p:List MemPlace} (hv:Value.okWide Tryz.prog w r b0 47 v) (h:DataW.Trod enc Tryz.prog w base spare held 47 v d p):∃ r:RCi,v = rciV r:=by
 obtain ⟨cs,rfl,_⟩:=okWide_struct Tryz.underlying47 hv
 obtain ⟨fuel,hf⟩:=h
 obtain ⟨r,e⟩:=rd_circ hf
 exact ⟨r,by rw [show cs = rciC r from Array.ext' e]⟩
theorem rd_pnt {fuel:Nat} {cs:List Value} {x:DataW H × List MemPlace} (h:DataW.trod enc Tryz.prog w base spare held fuel 56 cs = some x):∃ r:RPn,cs = (rpnC r).toList:=by
 obtain ⟨y0,y1,n,_,hl,h0,h1⟩:=trod_struct2 Tryz.underlying56 h
 obtain ⟨b,e0,_⟩:=DataW.trod_bool Tryz.underlying4 h0
 obtain ⟨z,e1⟩:=rd_gauss h1
 rw [show Tryz.prog.cellsOf 56 = 9 by kernel_rfl] at hl
 rw [show Tryz.prog.cellsOf 4 = 1 by kernel_rfl] at e0
 rw [show Tryz.prog.cellsOf 27 = 8 by kernel_rfl] at e1
 refine ⟨⟨b,z⟩,?_⟩
 have e0' : (cs.drop 0).take 1 = _:=e0
 have e1' : (cs.drop 1).take 8 = _:=e1
 have e3:cs.drop 1 = (cs.drop 1).take 8:=(List.take_of_length_le (by rw [List.length_drop,hl]; decide)).symm
 have e:cs = (cs.drop 0).take 1 ++ cs.drop 1:=by rw [← cut_at cs 0 1,List.drop_zero]
 rw [e,e3,e0', e1']
 rfl
end
end Go.Proofs.YtcpjdjnaipbieaaGreat
namespace Go.Proofs.YtcpjdjnaipbieaaGreat
open Go.ChangeShapes Go.WideShapes Go.ChangeAt Go.RowKit Go.WideElems
theorem law_own:ownKnob Tryz.prog.godebug = none:=by kernel_rfl
theorem law_laid:laidOutB Tryz.prog = true:=by kernel_rfl
section
variable {H:Type} {enc:TypeId × Value → H}
theorem trodAll_stays {W W' : World} {sp:Nat → Bool}:∀ {ts:List TypeId} {vs:List Value} {ds:List (DataW H)} {ps:List MemPlace},(∀ t ∈ ts,Tryz.prog.readableRec t = true ∧ t < Tryz.prog.types.size) →
  DataW.TrodAll enc Tryz.prog W 0 (fun _=>true) true ts vs ds ps → (∀ p ∈ ps,W.sameAt W' p) → (∀ p ∈ ps,sp p.block = true) → DataW.TrodAll enc Tryz.prog W' 0 sp true ts vs ds ps:=by
 intro ts
 induction ts with
 | nil =>
  intro vs ds ps _ h _ _
  obtain ⟨rfl,rfl,rfl⟩:=trodAll_nil h
  exact trodAll_mk0
 | cons t ts ih =>
  intro vs ds ps ht h hs hb
  obtain ⟨v,vs', d,ds', p,p', rfl,rfl,rfl,h0,h1⟩:=trodAll_cons h
  obtain ⟨h2,h3⟩:=ht t (by simp)
  exact trodAll_cons_mk (Trod_stays law_laid h2 h3 h0 (fun q hq=>hs q (by simp [hq])) (fun q hq=>hb q (by simp [hq]))) (ih (fun t ht' => ht t (by simp [ht'])) h1 (fun q hq=>hs q (by simp [hq])) (fun q hq=>hb q (by simp [hq])))
set_option maxRecDepth 100000 in
theorem law_post {f:Func} {s:ChangeSpec} {fresh handsOn again:Bool} {W W' : World} {args:Array Value} {ds gs:List (DataW H)} {before:List MemPlace} (hW:DataW.Whole enc Tryz.prog f.params.toList s.vars false W args.toList ds gs before)
  (hv:s.vars = []) (hfn:s.fn H ds = { results:=[.lit (.bool true)],args:=ds }) (hr:f.resultTypes = #[4]) (hp:f.params.toList.all (fun t=>Tryz.prog.readableRec t && decide (t < Tryz.prog.types.size)) = true) (hb:Below W.heap.size W W') :
  s.post enc Tryz.prog f false fresh handsOn again W args (.bool true) W' := by
 have hlt:∀ p ∈ before,p.block < W.heap.size:=fun p hq=>hW.lt p hq
 have hW' := hW
 obtain ⟨p,q,hA,hV,rfl,hfz,hnd⟩:=hW
 rw [hv] at hV
 obtain ⟨rfl,rfl⟩:=trodVars_none hV
 have hpar:∀ t ∈ f.params.toList,Tryz.prog.readableRec t = true ∧ t < Tryz.prog.types.size:=fun t ht=>by
  have:=List.all_eq_true.1 hp t ht
  simpa using this
 have hargs:∀ sp:Nat → Bool,(∀ x ∈ p ++ [],sp x.block = true) → DataW.TrodAll enc Tryz.prog W' 0 sp true f.params.toList args.toList ds p:=fun sp hs =>
  trodAll_stays hpar hA (fun x hx=>hb.same (hlt x (by simp [hx]))) (fun x hx=>hs x (by simp [hx]))
 have hres:∀ (b:Nat) (sp:Nat → Bool) (hd:Bool),DataW.TrodAll enc Tryz.prog W' b sp hd f.resultTypes.toList (Value.resultList f.resultTypes.size (.bool true)) [.lit (.bool true)] []:=fun _ _ _=>by
  rw [hr]
  exact trodAll_cons_mk (shut_bool Tryz.underlying4 _) trodAll_mk0
 have hold:∀ x ∈ p ++ [],(fun b=>decide (b < W.heap.size)) x.block = true:=fun x hx=>by simpa using hlt x hx
 have hfn' : s.fn H (ds ++ []) = { results:=[.lit (.bool true)],args:=ds }:=by rw [List.append_nil]; exact hfn
 refine ⟨ds,[],p ++ [],[],p,[],hW', by rw [hfn']; exact hres _ _ _,by rw [hfn']; exact hargs _ hold,by rw [hv,hfn']; rfl,World.keptBut_mono (fun x hx=>⟨hx,?_⟩) (hb.frame (· ∈ p ++ [])),fun _=>?_⟩
 ·simpa using hx
 ·refine ⟨ok_one hr rfl (okWide_bool_mk Tryz.underlying4 _),_,[],([] ++ p) ++ [],⟨[] ++ p,[],trodAll_append (hargs _ (fun _ _=>rfl)) (hres _ _ _),by rw [hv]; rfl,rfl,?_,?_⟩,?_⟩
  ·intro b off hx
   have hin:MemPlace.cell b off ∈ p ++ []:=by simpa using hx
   rw [hb.frozen (hlt _ hin)]
   exact hfz b off hin
  ·intro ha
   have:=hnd ha
   simpa using this
  ·intro x hx _
   simpa using hx
end
end Go.Proofs.YtcpjdjnaipbieaaGreat
namespace Go.Proofs.YtcpjdjnaipbieaaGreat.ivTuLaw
open Go.ChangeShapes Go.WideShapes Go.ChangeAt Go.RowKit
theorem lTu {W:World} (c d:RCi) (m:RMb) (p:RPn):Calls Tryz.prog 12 #[rciV c,rciV d,.agg ⟨(rmbC m).toList ++ (rpnC p).toList⟩] W (RetV (.bool true) W):=by
 cases h:(lgC c || lgC d) with
 | true=>exact lTu0 c d m p h
 | false=>cases h1:(lgG p.z || lgG m.a || lgG m.b || lgG m.c || lgG m.d) with
  | true=>exact lTu1 c d m p h h1
  | false=>cases h2:ciOk c with
   | false=>exact lTu2 c d m p h h1 h2
   | true =>
    obtain ⟨c,rfl,_⟩:=ciOk_ex h2
    cases h3:ciOk d with
    | false=>exact lTu3 c d m p h h1 h2 h3
    | true =>
     obtain ⟨d,rfl,_⟩:=ciOk_ex h3
     cases h4:mbOk m with
     | false=>exact lTu4 c d m p h h1 h2 h3 h4
     | true =>
      obtain ⟨m,rfl,_⟩:=mbOk_ex h4
      exact lTu6 c d m p h h1 h2 h3 h4
section
variable {H:Type} {enc:TypeId × Value → H} {w:World} {base:Nat} {spare:Nat → Bool} {held:Bool}
set_option maxRecDepth 100000 in
theorem open_where {r:Reach} {b0:Nat} {v:Value} {d:DataW H} {q:List MemPlace} (hv:Value.okWide Tryz.prog w r b0 153 v) (h:DataW.Trod enc Tryz.prog w base spare held 153 v d q):∃ (m:RMb) (p:RPn),v = .agg ⟨(rmbC m).toList ++ (rpnC p).toList⟩:=by
 obtain ⟨cs,rfl,_⟩:=okWide_struct Tryz.underlying153 hv
 obtain ⟨fuel,hf⟩:=h
 obtain ⟨y0,y1,n,_,hl,h0,h1⟩:=trod_struct2 Tryz.underlying153 hf
 obtain ⟨m,e0⟩:=rd_mob h0
 obtain ⟨p,e1⟩:=rd_pnt h1
 rw [show Tryz.prog.cellsOf 153 = 42 by kernel_rfl] at hl
 rw [show Tryz.prog.cellsOf 44 = 33 by kernel_rfl] at e0
 rw [show Tryz.prog.cellsOf 56 = 9 by kernel_rfl] at e1
 refine ⟨m,p,?_⟩
 have hl' : cs.toList.length = 42:=by first | exact hl | (rw [Array.length_toList]; exact hl)
 have e0' : (cs.toList.drop 0).take 33 = _:=e0
 have e1' : (cs.toList.drop 33).take 9 = _:=e1
 have e3:cs.toList.drop 33 = (cs.toList.drop 33).take 9:=(List.take_of_length_le (by rw [List.length_drop,hl']; decide)).symm
 have e:cs.toList = (cs.toList.drop 0).take 33 ++ cs.toList.drop 33:=by rw [← cut_at cs.toList 0 33,List.drop_zero]
 rw [e3,e0', e1'] at e
 rw [← e]
end
set_option maxRecDepth 100000 in
theorem contract (H:Type) (enc:TypeId × Value → H) (W:World) (base:Nat) (args:Array Value) (ds gs:List (DataW H)) (before:List MemPlace)
  (hval:∀ (j:Nat) t v,Tryz.f12.params[j]? = some t → args[j]? = some v → Value.okWide Tryz.prog W .any base t v)
  (hW:DataW.Whole enc Tryz.prog Tryz.f12.params.toList Rows.invertTurnsSpec.vars false W args.toList ds gs before) :
  Calls Tryz.prog 12 args W fun e W' => ∃ v,e = .returned v ∧ Rows.invertTurnsSpec.post enc Tryz.prog Tryz.f12 false true false false W args v W' := by
 have hW' := hW
 obtain ⟨p,q,hA,hV,rfl,hfz,hnd⟩:=hW
 rw [Tryz.params12] at hA hval
 obtain ⟨v0,vs0,d0,ds0,p0,q0,hargs,rfl,rfl,h0,r0⟩:=trodAll_cons hA
 obtain ⟨v1,vs1,d1,ds1,p1,q1,rfl,rfl,rfl,h1,r1⟩:=trodAll_cons r0
 obtain ⟨v2,vs2,d2,ds2,p2,q2,rfl,rfl,rfl,h2,r2⟩:=trodAll_cons r1
 obtain ⟨rfl,rfl,rfl⟩:=trodAll_nil r2
 obtain rfl:args = #[v0,v1,v2]:=by cases args; simp_all
 obtain ⟨rfl,rfl⟩:=trodVars_none hV
 obtain ⟨c,rfl⟩:=open_circ (hval 0 _ v0 rfl rfl) h0
 obtain ⟨d,rfl⟩:=open_circ (hval 1 _ v1 rfl rfl) h1
 obtain ⟨m,p,rfl⟩:=open_where (hval 2 _ v2 rfl rfl) h2
 refine (lTu c d m p).mono fun e W' h=>?_
 obtain ⟨h1,h2⟩:=h.is
 exact ⟨_,h1,law_post hW' rfl rfl rfl (by kernel_rfl) h2⟩
set_option maxRecDepth 100000 in
theorem lifted (os:Os) (started:os.Started) (H:Type) (enc:TypeId × Value → H) :
  ReturnsInHanded {} Tryz.checked os 12 .any (Rows.invertTurnsSpec.pre6 enc Tryz.prog Tryz.f12 Rows.invertTurnsRow.domain false) (Rows.invertTurnsSpec.post enc Tryz.prog Tryz.f12 false true false false):=by
 refine returnsInHanded_of_change (C:=Tryz.checked) law_own started (by kernel_rfl) Tryz.func12
  (ChangeSpec.witness6 (enc:=enc) (C:=Tryz.checked) false ⟨#[],#[.agg #[.bool false,.string ⟨#[]⟩,.bool false,.string ⟨#[]⟩,.bool false,.string ⟨#[]⟩,.bool false,.string ⟨#[]⟩,.bool false,.string ⟨#[]⟩,.bool false,.string ⟨#[]⟩,.bool false,.string ⟨#[]⟩,.bool false,.string ⟨#[]⟩],.agg #[.bool false,.string ⟨#[]⟩,.bool false,.string ⟨#[]⟩,.bool false,.string ⟨#[]⟩,.bool false,.string ⟨#[]⟩,.bool false,.string ⟨#[]⟩,.bool false,.string ⟨#[]⟩,.bool false,.string ⟨#[]⟩,.bool false,.string ⟨#[]⟩],.agg #[.bool false,.string ⟨#[]⟩,.bool false,.string ⟨#[]⟩,.bool false,.string ⟨#[]⟩,.bool false,.string ⟨#[]⟩,.bool false,.string ⟨#[]⟩,.bool false,.string ⟨#[]⟩,.bool false,.string ⟨#[]⟩,.bool false,.string ⟨#[]⟩,.bool false,.string ⟨#[]⟩,.bool false,.string ⟨#[]⟩,.bool false,.string ⟨#[]⟩,.bool false,.string ⟨#[]⟩,.bool false,.string ⟨#[]⟩,.bool false,.string ⟨#[]⟩,.bool false,.string ⟨#[]⟩,.bool false,.string ⟨#[]⟩,.bool false,.bool false,.bool false,.string ⟨#[]⟩,.bool false,.string ⟨#[]⟩,.bool false,.string ⟨#[]⟩,.bool false,.string ⟨#[]⟩]],[]⟩ 8 (by kernel_rfl) (by kernel_rfl) (by kernel_rfl) (by kernel_rfl)) ?_
 intro W base args ds gs before hval hW _ _
 exact contract H enc W base args ds gs before hval hW
theorem kA:Tryz.pinned.checked.prog.funcNamed Rows.invertTurnsRow.func = some 12:=by kernel_rfl
theorem laidP:laidOutB Tryz.pinned.checked.prog = true:=law_laid
set_option maxRecDepth 100000 in
set_option maxHeartbeats 4000000 in
theorem kB:joinedFacts Tryz.pinned.checked.prog 12 Tryz.f12 Rows.invertTurnsSpec Rows.invertTurnsRow = true:=by
 unfold joinedFacts
 simp only [Bool.and_eq_true]
 repeat' apply And.intro
 all_goals first | with_reducible exact laidP | as_aux_lemma=>kernel_rfl
theorem kC:Tryz.f12.isInstance Tryz.pinned.checked.prog Rows.invertTurnsRow.origin Rows.invertTurnsRow.targs:=of_decide_eq_true (by kernel_rfl)
theorem kD:Tryz.f12.isWrapper Tryz.pinned.checked.prog Rows.invertTurnsRow.wrapper Rows.invertTurnsRow.mainSum:=by
 unfold Func.isWrapper; first | (rw [if_pos (by decide +kernel)]; kernel_rfl) | (rw [if_neg (by decide +kernel)]; exact ⟨rfl,rfl⟩)
theorem over:Rows.InvertTurnsSaid :=
 OpenClaim.holds_of_wide 12 Tryz.f12 rfl rfl rfl rfl rfl rfl rfl ⟨rfl,rfl,rfl,rfl,rfl⟩ rfl rfl rfl rfl rfl kA Tryz.func12 kB kC kD
  (fun os started H enc _=>lifted os started H enc)
end Go.Proofs.YtcpjdjnaipbieaaGreat.ivTuLaw
namespace Go.Proofs.YtcpjdjnaipbieaaGreat
theorem invertTurns_proved:Rows.InvertTurnsSaid:=ivTuLaw.over
end Go.Proofs.YtcpjdjnaipbieaaGreat
