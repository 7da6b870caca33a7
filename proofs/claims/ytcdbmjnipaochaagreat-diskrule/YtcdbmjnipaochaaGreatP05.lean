import Derived.Test.YtcdbmjnipaochaaGreatP04
set_option linter.unusedVariables false
set_option linter.unusedSimpArgs false
set_option maxHeartbeats 8000000
set_option maxRecDepth 100000
namespace Go.Proofs.YtcdbmjnipaochaaGreat
open Go.RowKit Rgn Eng
variable {S:Nat→Prop} {W:World}
theorem eMul{v0 v1:Value}(x y:Rat)(t0:(RatN x).p S v0 W)(t1:(RatN y).p S v1 W)(p0:ht x+ht y≤68719476736):Calls Tryz.prog 225 #[v0,v1] W (Ret (RatP (x*y)) S W):=by
 refine Run.goP (S:=S) ((Pack.nil.s spRatN t0).s spRatN t1) Tryz.func225 rfl ?_
 refine Run.cR spRat (fun _ _ _ H=>eRat x (H.f 0)) ?_
 refine Run.cR spRat (fun _ _ _ H=>eRat y (H.f 1)) ?_
 refine Run.cO 0 softRat (fun _ _ _ H=>qMul x y (RatP.blk (H.oz 0)) (anyV (H.f 2)) (anyV (H.f 3)) p0) ?_
 exact Run.rR (fun _ _ _ H=>H.s 0)
theorem eParts{v0:Value}(x:Cx)(t0:(NumP x).p S v0 W):Calls Tryz.prog 141 #[v0] W (Ret (VP.tup (RatP x.re) (RatP x.im)) S W):=by
 refine Run.goP (S:=S) (Pack.nil.s spNum t0) Tryz.func141 rfl ?_
 refine Run.dr ?_
 refine RunD.cR spRat (fun _ _ _ H=>eRat x.re (H.f 0)) ?_
 refine RunD.cR spRat (fun _ _ _ H=>eRat x.im (H.f 1)) ?_
 refine RunD.en ?_
 exact Run.rR (fun _ _ _ H=>⟨_,_,rfl,(H.f 2),(H.f 3)⟩)
theorem eZero{v0:Value}(x:Cx)(t0:(NumP x).p S v0 W):Calls Tryz.prog 227 #[v0] W (RetV (.bool x.zero) W):=by
 refine Run.goP (S:=S) (Pack.nil.s spNum t0) Tryz.func227 rfl ?_
 refine Run.cR spRat (fun _ _ _ H=>eRat x.re (H.f 0)) ?_
 refine Run.cV [.int .i64 x.re.num.sign] kb (fun _ _ _ H=>qSign x.re (H.f 2)) ?_
 refine Run.ic x.re.num.sign 0 (x.re.num.sign == 0) ?_
 refine (Bool.eq_false_or_eq_true (x.re.num.sign == 0)).elim (fun c1=>?_) (fun c1=>?_)
 · refine Run.kn c1 ?_
   refine Run.cR spRat (fun _ _ _ H=>eRat x.im (H.f 1)) ?_
   refine Run.cV [.int .i64 x.im.num.sign] kb (fun _ _ _ H=>qSign x.im (H.f 3)) ?_
   refine Run.ic x.im.num.sign 0 (x.im.num.sign == 0) ?_
   exact Run.rV (zero_T c1)
 · refine Run.kn c1 ?_
   exact Run.rV (zero_F c1)
theorem eAdd{v0 v1:Value}(x y:Cx)(t0:(NumP x).p S v0 W)(t1:(NumP y).p S v1 W)(p0:ht x.re+ht x.im+ht y.re+ht y.im≤17179869184):Calls Tryz.prog 95 #[v0,v1] W (Ret (NumP (x.add y)) S W):=by
 refine Run.goP (S:=S) ((Pack.nil.s spNum t0).s spNum t1) Tryz.func95 rfl ?_
 refine Run.dr ?_
 refine RunD.cR spRat (fun _ _ _ H=>eRat x.re (H.f 0)) ?_
 refine RunD.cR spRat (fun _ _ _ H=>eRat y.re (H.f 2)) ?_
 refine RunD.cO 3 softRat (fun _ _ _ H=>qAdd x.re y.re (RatP.blk (H.oz 3)) (anyV (H.f 4)) (anyV (H.f 5)) (by omega)) ?_
 refine RunD.cR spRat (fun _ _ _ H=>eRat x.im (H.f 1)) ?_
 refine RunD.cR spRat (fun _ _ _ H=>eRat y.im (H.f 3)) ?_
 refine RunD.cO 4 softRat (fun _ _ _ H=>qAdd x.im y.im (RatP.blk (H.oz 4)) (anyV (H.f 7)) (anyV (H.f 8)) (by omega)) ?_
 refine RunD.en ?_
 exact Run.rR (fun _ _ _ H=>NumP.mk (RatP.n (H.s 3)) (RatP.n (H.s 4)))
theorem eSub{v0 v1:Value}(x y:Cx)(t0:(NumP x).p S v0 W)(t1:(NumP y).p S v1 W)(p0:ht x.re+ht x.im+ht y.re+ht y.im≤17179869184):Calls Tryz.prog 226 #[v0,v1] W (Ret (NumP (x.sub y)) S W):=by
 refine Run.goP (S:=S) ((Pack.nil.s spNum t0).s spNum t1) Tryz.func226 rfl ?_
 refine Run.dr ?_
 refine RunD.cR spRat (fun _ _ _ H=>eRat x.re (H.f 0)) ?_
 refine RunD.cR spRat (fun _ _ _ H=>eRat y.re (H.f 2)) ?_
 refine RunD.cO 3 softRat (fun _ _ _ H=>qSub x.re y.re (RatP.blk (H.oz 3)) (anyV (H.f 4)) (anyV (H.f 5)) (by omega)) ?_
 refine RunD.cR spRat (fun _ _ _ H=>eRat x.im (H.f 1)) ?_
 refine RunD.cR spRat (fun _ _ _ H=>eRat y.im (H.f 3)) ?_
 refine RunD.cO 4 softRat (fun _ _ _ H=>qSub x.im y.im (RatP.blk (H.oz 4)) (anyV (H.f 7)) (anyV (H.f 8)) (by omega)) ?_
 refine RunD.en ?_
 exact Run.rR (fun _ _ _ H=>NumP.mk (RatP.n (H.s 3)) (RatP.n (H.s 4)))
theorem eNMul{v0 v1:Value}(x y:Cx)(t0:(NumP x).p S v0 W)(t1:(NumP y).p S v1 W)(p0:ht x.re+ht x.im+ht y.re+ht y.im≤17179869184):Calls Tryz.prog 96 #[v0,v1] W (Ret (NumP (x.mul y)) S W):=by
 have h1:=ht_mul x.re y.re
 have h2:=ht_mul x.im y.im
 have h3:=ht_mul x.re y.im
 have h4:=ht_mul x.im y.re
 refine Run.goP (S:=S) ((Pack.nil.s spNum t0).s spNum t1) Tryz.func96 rfl ?_
 refine Run.dr ?_
 refine RunD.cR spRat (fun _ _ _ H=>eMul x.re y.re (H.f 0) (H.f 2) (by omega)) ?_
 refine RunD.cR spRat (fun _ _ _ H=>eMul x.im y.im (H.f 1) (H.f 3) (by omega)) ?_
 refine RunD.cO 3 softRat (fun _ _ _ H=>qSub (x.re*y.re) (x.im*y.im) (RatP.blk (H.oz 3)) (anyV (H.f 4)) (anyV (H.f 5)) (by omega)) ?_
 refine RunD.cR spRat (fun _ _ _ H=>eMul x.re y.im (H.f 0) (H.f 3) (by omega)) ?_
 refine RunD.cR spRat (fun _ _ _ H=>eMul x.im y.re (H.f 1) (H.f 2) (by omega)) ?_
 refine RunD.cO 4 softRat (fun _ _ _ H=>qAdd (x.re*y.im) (x.im*y.re) (RatP.blk (H.oz 4)) (anyV (H.f 7)) (anyV (H.f 8)) (by omega)) ?_
 refine RunD.en ?_
 exact Run.rR (fun _ _ _ H=>NumP.mk (RatP.n (H.s 3)) (RatP.n (H.s 4)))
theorem eScale{v0 v1:Value}(x:Cx)(r:Rat)(t0:(NumP x).p S v0 W)(t1:(RatN r).p S v1 W)(p0:ht x.re+ht x.im+ht r≤34359738368):Calls Tryz.prog 235 #[v0,v1] W (Ret (NumP (x.scale r)) S W):=by
 refine Run.goP (S:=S) ((Pack.nil.s spNum t0).s spRatN t1) Tryz.func235 rfl ?_
 refine Run.dr ?_
 refine RunD.cR spRat (fun _ _ _ H=>eMul x.re r (H.f 0) (H.f 2) (by omega)) ?_
 refine RunD.cR spRat (fun _ _ _ H=>eMul x.im r (H.f 1) (H.f 2) (by omega)) ?_
 refine RunD.en ?_
 exact Run.rR (fun _ _ _ H=>NumP.mk (RatP.n (H.f 3)) (RatP.n (H.f 4)))
theorem eConj{v0:Value}(x:Cx)(t0:(NumP x).p S v0 W)(p0:ht x.re+ht x.im≤8589934592):Calls Tryz.prog 188 #[v0] W (Ret (NumP x.conj) S W):=by
 refine Run.goP (S:=S) (Pack.nil.s spNum t0) Tryz.func188 rfl ?_
 refine Run.dr ?_
 refine RunD.cR spRat (fun _ _ _ H=>eRat x.re (H.f 0)) ?_
 refine RunD.cR spRat (fun _ _ _ H=>eRat x.im (H.f 1)) ?_
 refine RunD.cO 2 softRat (fun _ _ _ H=>qNeg x.im (RatP.blk (H.oz 2)) (anyV (H.f 3)) (by omega)) ?_
 refine RunD.en ?_
 exact Run.rR (fun _ _ _ H=>NumP.mk (RatP.n (H.f 2)) (RatP.n (H.s 2)))
theorem eInt(m n:Int)(p0:-9223372036854775808≤m)(p1:m≤9223372036854775807)(p2:-9223372036854775808≤n)(p3:n≤9223372036854775807):Calls Tryz.prog 234 #[.int .i64 m,.int .i64 n] W (Ret (NumP (Cx.ofInt m n)) S W):=by
 refine Run.goP (S:=S) ((Pack.nil.k (.int .i64 m) [.int .i64 m] kb).k (.int .i64 n) [.int .i64 n] kb) Tryz.func234 rfl ?_
 refine Run.cR spRat (fun _ _ _ H=>qNewRat m 1 p0 p1 (by decide) (by decide) (by decide)) ?_
 refine Run.cR spRat (fun _ _ _ H=>qNewRat n 1 p2 p3 (by decide) (by decide) (by decide)) ?_
 exact Run.rR (fun _ _ _ H=>VPe (φ:=NumP) (num_int m n) (NumP.mk (RatP.n (H.f 0)) (RatP.n (H.f 1))))
end Go.Proofs.YtcdbmjnipaochaaGreat
namespace Go.Proofs.YtcdbmjnipaochaaGreat
open Go.RowKit Rgn
variable {S:Nat→Prop} {W:World}
theorem eFrac{v0:Value}(x:Rat)(t0:(RatN x).p S v0 W)(p0:ht x≤68719476736):Calls Tryz.prog 144 #[v0] W (RetV (.tuple #[.agg #[.bool (fcut x).a.n,.string (fcut x).a.s,.bool (fcut x).b.n,.string (fcut x).b.s],.int .i64 (ferr x)]) W):=by
 have F_v0:(RatN x).p (Amb S W) v0 W:=(RatN x).mono (fun _ _ h=>.inl h) t0
 have n0:=hi_num x
 have n2:=hi_den x
 have bel:=b0 W
 go_enter Tryz.func144,Tryz.ntmps144
 refine gs 2 (Amb S W) fun _ K1=>?_
 refine .al rfl zF ?_
 refine .mc rfl ?_
 refine .dk (fun u=>v0::U::u 0::u 1::us 29) K1 bel fun u1 w1 D bel=>?_
 obtain⟨b2,E1_0,A2,B2⟩:=D.nw 0
 have E1_1:=D.q 1
 replace F_v0:=D.gr (RatN x) F_v0
 clear D
 refine wp_seq_k fun _ K3=>?_
 refine wp_region_list ?_
 refine wpT_val rfl (ex_move rfl) ?_
 refine wpT_callR (args:=#[v0]) (φ:=(RatP x)) (S:=Amb S W) rfl (ex_call rfl rfl Tryz.func224 (by kernel_rfl) (by kernel_rfl) (by simp only [List.map_toArray,List.map_cons,List.map_nil];rfl)) (eRat (x:=x) F_v0 ) fun vw4 w4 fw4 ow4=>?_
 obtain⟨b5,rfl,L5,F5⟩:=RatP.elim fw4
 replace L5:Amb S W b5:=L5.elim id (fun h=>.inr (Nat.le_trans bel.size h))
 replace B2:=(ow4.block b2 (lt_of B2)).trans B2
 replace F_v0:=(RatN x).grow (Rgn.Below.growS ow4 (Nat.le_refl _) _) F_v0
 replace bel:=bel.trans (ow4.mono bel.size)
 refine wpT_val rfl (ex_assign rfl) ?_
 refine wpList_nil ?_
 show _
 refine K3 _ _ ?_
 refine gs 8 (Amb S W) fun _ K6=>?_
 refine .mz rfl 0 (V:=pt b5) rfl ?_
 refine .cR rfl [] Tryz.func138 (fun H=>⟨_,ar1 (H.g 8 0),qNum _ (H.was _ [] (VP.at F5 L5)) (by omega)⟩) ?_
 refine .cR rfl [1] Tryz.func253 (fun H=>⟨_,ar1 (H.r 9 1),bBytes _ (IntO.p (SV.sub [1] (H.a 1 rfl) rfl)) (by omega)⟩) ?_
 refine .mz rfl 0 (V:=pt b5) rfl ?_
 refine .cR rfl [] Tryz.func139 (fun H=>⟨_,ar1 (H.g 11 3),qDenom _ (H.was _ [] (VP.at F5 L5)) (by omega)⟩) ?_
 refine .cR rfl [4] Tryz.func253 (fun H=>⟨_,ar1 (H.r 12 4),bBytes _ (IntO.p (SV.sub [4] (H.a 4 rfl) rfl)) (by omega)⟩) ?_
 refine .mn rfl 2 [1,2] ?_
 refine .mn rfl 5 [4,5] ?_
 refine .dk (fun u=>pt b5::U::u1 0::u1 1::u 6::u 7::v0::pt b5::sq u 0 6 (us 19)) K6 bel fun u3 w3 D bel=>?_
 obtain⟨x7,E3_6,F_x7⟩:∃ x_,(u3 6).v=x_∧(BytP x.num.natAbs).p (Amb S W) x_ w3:=⟨_,rfl,D.rr 6⟩
 obtain⟨x8,E3_7,F_x8⟩:∃ x_,(u3 7).v=x_∧(BytP ((x.den:Int).natAbs)).p (Amb S W) x_ w3:=⟨_,rfl,D.rr 7⟩
 replace B2:=D.k B2
 replace F5:=D.o L5 F5
 clear D
 refine wp_seq_k fun _ K9=>?_
 rcases Bool.eq_false_or_eq_true (decide (1024<(((bS x.num.natAbs).size:Nat):Int))) with c11|c11
 ·
  have dc11:=of_decide_eq_true c11
  refine gs 8 (Amb S W) fun _ K10=>?_
  refine .mz rfl 4 E3_6 ?_
  refine .e rfl (V:=.int .i64 (((bS x.num.natAbs).size:Nat):Int)) (fun H=>by have e_:=(H.g 14 0);obtain⟨_,_,_,_,_,hv_,_⟩:=(show Byts _ _ _ from (VP.any _ (H.was _ [] F_x7)));rw [hv_] at e_;rw [bS_len];clear H;go_simp) ?_
  refine .e rfl (V:=.bool true) (fun H=>x_cm (H.g 15 1) (H.c _) c11) ?_
  refine .mv rfl 2 ?_
  refine .sk rfl 3 ?_
  refine .sk rfl 3 ?_
  refine .sk rfl 3 ?_
  refine .e rfl (fun H=>x_pkT (H.g 17 3) (H.c _)) ?_
  refine .dk (fun u=>pt b5::U::u1 0::u1 1::u3 6::u3 7::v0::pt b5::sq u3 0 6 (sq u 0 8 (us 11))) K10 bel fun u4 w4 D bel=>?_
  have E4_7:=D.q 7
  replace B2:=D.k B2
  replace F5:=D.o L5 F5
  replace F_x7:=D.gr (BytP x.num.natAbs) F_x7
  replace F_x8:=D.gr (BytP ((x.den:Int).natAbs)) F_x8
  clear D
  refine wp_cond_true (by exact E4_7) ?_
  refine gs1 3 (Amb S W) 1 B2 fun _ K12=>?_
  refine .e rfl (V:=.agg zF) (fun H=>by clear H;go_simp) ?_
  refine .s1 rfl B2 (fun H=>⟨H.z 2 E1_0,H.g 22 0⟩) ?_
  refine .mc rfl ?_
  refine .d1 (fun u=>pt b5::U::u1 0::u 2::u3 6::u3 7::v0::pt b5::sq u3 0 6 (sq u4 0 8 (u 0::us 10))) K12 bel A2 fun u5 w5 D bel=>?_
  have E5_2:=D.q 2
  replace B2:=D.ol 1
  clear D
  refine wp_ret ?_
  refine ret_ok rfl (by exact results_mix rfl (by exact E1_0) B2 Tryz.underlying25 rfl (by kernel_rfl) (by exact E5_2)) (RetV.mk ?_ bel)
  exact congrArg Ending.returned (fcut_no (fcut_2 c11))
 ·
  have dc11:=of_decide_eq_false c11
  refine gs 8 (Amb S W) fun _ K10=>?_
  refine .mz rfl 4 E3_6 ?_
  refine .e rfl (V:=.int .i64 (((bS x.num.natAbs).size:Nat):Int)) (fun H=>by have e_:=(H.g 14 0);obtain⟨_,_,_,_,_,hv_,_⟩:=(show Byts _ _ _ from (VP.any _ (H.was _ [] F_x7)));rw [hv_] at e_;rw [bS_len];clear H;go_simp) ?_
  refine .e rfl (V:=.bool false) (fun H=>x_cm (H.g 15 1) (H.c _) c11) ?_
  refine .mv rfl 2 ?_
  refine .mz rfl 5 E3_7 ?_ (hg:=gq 3 rfl)
  refine .e rfl (V:=.int .i64 (((bS ((x.den:Int).natAbs)).size:Nat):Int)) (fun H=>by have e_:=(H.g 18 4);obtain⟨_,_,_,_,_,hv_,_⟩:=(show Byts _ _ _ from (VP.any _ (H.was _ [] F_x8)));rw [hv_] at e_;rw [bS_len];clear H;go_simp) ?_ (hg:=gq 3 rfl)
  refine .e rfl (V:=.bool (decide (1024<(((bS ((x.den:Int).natAbs)).size:Nat):Int)))) (fun H=>x_cmp (H.g 19 5) (H.c _)) ?_ (hg:=gq 3 rfl)
  refine .e rfl (fun H=>x_pkF (H.g 17 3) (H.g 20 6)) ?_
  refine .dk (fun u=>pt b5::U::u1 0::u1 1::u3 6::u3 7::v0::pt b5::sq u3 0 6 (sq u 0 8 (us 11))) K10 bel fun u4 w4 D bel=>?_
  have E4_7:=D.q 7
  replace B2:=D.k B2
  replace F5:=D.o L5 F5
  replace F_x7:=D.gr (BytP x.num.natAbs) F_x7
  replace F_x8:=D.gr (BytP ((x.den:Int).natAbs)) F_x8
  clear D
  rcases Bool.eq_false_or_eq_true (decide (1024<(((bS ((x.den:Int).natAbs)).size:Nat):Int))) with c13|c13
  ·
   refine wp_cond_true ((E4_7).trans (congrArg Value.bool c13)) ?_
   have dc13:=of_decide_eq_true c13
   refine gs1 3 (Amb S W) 1 B2 fun _ K14=>?_
   refine .e rfl (V:=.agg zF) (fun H=>by clear H;go_simp) ?_
   refine .s1 rfl B2 (fun H=>⟨H.z 2 E1_0,H.g 22 0⟩) ?_
   refine .mc rfl ?_
   refine .d1 (fun u=>pt b5::U::u1 0::u 2::u3 6::u3 7::v0::pt b5::sq u3 0 6 (sq u4 0 8 (u 0::us 10))) K14 bel A2 fun u5 w5 D bel=>?_
   have E5_2:=D.q 2
   replace B2:=D.ol 1
   clear D
   refine wp_ret ?_
   refine ret_ok rfl (by exact results_mix rfl (by exact E1_0) B2 Tryz.underlying25 rfl (by kernel_rfl) (by exact E5_2)) (RetV.mk ?_ bel)
   exact congrArg Ending.returned (fcut_no (fcut_3 c13))
  ·
   refine wp_cond_false ((E4_7).trans (congrArg Value.bool c13)) ?_
   have dc13:=of_decide_eq_false c13
   refine wp_skip ?_
   refine K9 _ _ ?_
   refine gd1 12 (Amb S W) 10 B2 fun _ K15=>?_
   refine .mz rfl 0 (V:=pt b5) rfl ?_
   refine .cK rfl Tryz.func91 (fun H=>⟨_,ar1 (H.g 23 0),qSign _ (VP.any _ (H.was _ [] (VP.at F5 L5)))⟩) ?_
   refine .e rfl (V:=.bool (decide (x.num.sign<0))) (fun H=>x_cmp (H.g 24 1) (H.c _)) ?_
   refine .mz rfl 4 E3_6 ?_
   refine Go2.eq (i:=4) rfl (G0 rfl) (V:=.string (bS x.num.natAbs)) (by intro u μ ρ H;exact ex_conv rfl (H.g 26 3) (Byts.str (VP.any _ (H.was _ [] F_x7)))) ?_
   refine .e rfl (V:=.agg #[.bool (decide (x.num.sign<0)),.string (bS x.num.natAbs)]) (fun H=>by have e25:=H.g 25 2;have e27:=H.g 27 4;clear H;go_simp) ?_
   refine .mz rfl 5 E3_7 ?_
   refine Go2.eq (i:=7) rfl (G0 rfl) (V:=.string (bS ((x.den:Int).natAbs))) (by intro u μ ρ H;exact ex_conv rfl (H.g 29 6) (Byts.str (VP.any _ (H.was _ [] F_x8)))) ?_
   refine .e rfl (V:=.agg #[.bool false,.string (bS ((x.den:Int).natAbs))]) (fun H=>by have e30:=H.g 30 7;clear H;go_simp) ?_
   refine .e rfl (V:=.agg #[.bool (decide (x.num.sign<0)),.string (bS x.num.natAbs),.bool false,.string (bS ((x.den:Int).natAbs))]) (fun H=>by have e28:=H.g 28 5;have e31:=H.g 31 8;clear H;go_simp) ?_
   refine .s1 rfl B2 (fun H=>⟨H.z 2 E1_0,H.g 32 9⟩) ?_
   refine .mc rfl ?_
   refine .d1 (fun u=>pt b5::U::u1 0::u 11::u3 6::u3 7::v0::pt b5::sq u3 0 6 (sq u4 0 8 (U::sq u 0 10 []))) K15 bel A2 fun u6 w6 D bel=>?_
   have E6_11:=D.q 11
   replace B2:=D.ol 10
   clear D
   refine wp_ret ?_
   refine ret_ok rfl (by exact results_mix rfl (by exact E1_0) B2 Tryz.underlying25 rfl (by kernel_rfl) (by exact E6_11)) (RetV.mk ?_ bel)
   exact congrArg Ending.returned (ecut_yes (fcut_1 c11 c13))
theorem eWhole(x:Int)(p0:hi x≤1099511627000):Calls Tryz.prog 251 #[wV x] W (Ret (IntO x) S W):=by
 have q0:=hi_bl x
 have q1:=hi_nat x.natAbs
 have bel:=b0 W
 go_enter Tryz.func251,Tryz.ntmps251
 refine gs 2 (Amb S W) fun _ K1=>?_
 refine .bx rfl (fun H=>H.v 0 (wV x)) ?_
 refine .mc rfl ?_
 refine .dk (fun u=>wV x::u 0::u 1::us 12) K1 bel fun u1 w1 D bel=>?_
 obtain⟨b2,E1_0,A2,B2⟩:=D.nw 0
 have E1_1:=D.q 1
 clear D
 refine gs 6 (Amb S W) fun _ K3=>?_
 refine .al rfl zI ?_
 refine .fz rfl 1 1 E1_0 ?_
 refine .lc rfl 1 B2 ?_ (V:=.string (bS x.natAbs))
 refine Go2.grow (i:=3) rfl (G0 rfl) (.val 3 [] (BytP x.natAbs)) (fun u μ ρ H=>by have e6:=H.g 6 2;obtain⟨v_,w_,hr_,hm_,hb_⟩:=conv_byt x.natAbs μ (by omega);exact⟨v_,w_,ex_conv rfl e6 hr_,SP.bytVal hm_,hb_⟩) ?_
 refine .cO rfl 0 Tryz.func177 (fun H h0 hz=>⟨_,ar2 (H.p 4 0 h0) (H.r 7 3),bSetBytes (n:=_) (IntBlk.of hz) (SV.any (H.a 3 rfl)) (by omega)⟩) ?_
 refine .mo rfl 4 ?_
 refine .dk (fun u=>wV x::u1 0::u1 1::u 5::sq u 0 5 (us 6)) K3 bel fun u2 w2 D bel=>?_
 obtain⟨b4,E2_5,A4,F4⟩:=D.ow 5
 have N2_4:=D.n1 0 (lt_of B2) ((D.a 5 rfl).1.symm.trans E2_5)
 replace B2:=D.k B2
 have L4:Amb S W b4:=.inr A4
 clear D
 refine wp_seq_k fun _ K5=>?_
 refine gs 2 (Amb S W) fun _ K6=>?_
 refine .fz rfl 1 0 E1_0 ?_
 refine .lc rfl 0 B2 ?_ (V:=.bool (decide (x<0)))
 refine .dk (fun u=>wV x::u1 0::u1 1::u2 5::sq u2 0 5 (u 0::u 1::us 4)) K6 bel fun u3 w3 D bel=>?_
 have E3_1:=D.q 1
 replace F4:=D.o L4 F4
 clear D
 rcases Bool.eq_false_or_eq_true (decide (x<0)) with c7|c7
 ·
  refine wp_cond_true ((E3_1).trans (congrArg Value.bool c7)) ?_
  have dc7:=of_decide_eq_true c7
  refine go2_seqT 2 1 rfl (Amb S W) [] [] (Olds.nil _) (by kernel_rfl) ?_
  refine .mz rfl 3 E2_5 ?_
  refine .mz rfl 3 E2_5 ?_
  refine .dT (fun u=>wV x::u1 0::u1 1::u2 5::sq u2 0 5 (u3 0::u3 1::sq u 0 3 (U::[]))) bel.size _ rfl fun u4 w4 D=>?_
  have E4_0:=D.q 0
  have E4_1:=D.q 1
  replace F4:=D.o L4 F4
  replace bel:=D.d.base.bel0 bel bel.size
  clear D
  refine wpT_callO (args:=#[pt b4,pt b4]) rfl (ex_call rfl rfl Tryz.func207 (by kernel_rfl) (by kernel_rfl) (by simp only [List.map_toArray,List.map_cons,List.map_nil];show #[(u4 0).v,(u4 1).v]=#[pt b4,pt b4];rw [E4_0,E4_1])) (bNeg (z:=b4) (x:=(x.natAbs:Int)) (IntO.blk F4) (IntO.p (VP.any _ F4)) (by omega)) fun w8 fw8 ow8=>?_
  have sw8:Soft w4 b4∨Local w4 b4:=.inl (IntO.soft F4)
  have F4:=fw8
  have L4:Amb S W b4:=.inr A4
  replace bel:=bel.trans (only_below' ow8 A4 bel.size)
  refine wpList_nil ?_
  show _
  refine K5 _ _ ?_
  refine gs 2 (Amb S W) fun _ K9=>?_
  refine .mz rfl 3 E2_5 ?_
  refine .mv rfl 0 ?_
  refine .dk (fun u=>wV x::u1 0::u 1::u2 5::sq u2 0 5 (u3 0::u3 1::u4 0::u4 1::.pointer (some ⟨b4,0,none⟩)::u 0::[])) K9 bel fun u5 w5 D bel=>?_
  have E5_1:=D.q 1
  replace F4:=D.o L4 F4
  clear D
  refine wp_ret ?_
  refine ret_ok rfl (by exact results_tmp' rfl (by exact E5_1)) ⟨_,rfl,?_,bel⟩
  exact into_eq (num_n dc7) (VP.at F4 L4)
 ·
  refine wp_cond_false ((E3_1).trans (congrArg Value.bool c7)) ?_
  have dc7:=of_decide_eq_false c7
  refine wp_skip ?_
  refine K5 _ _ ?_
  refine gs 2 (Amb S W) fun _ K10=>?_
  refine .mz rfl 3 E2_5 ?_
  refine .mv rfl 0 ?_
  refine .dk (fun u=>wV x::u1 0::u 1::u2 5::sq u2 0 5 (u3 0::u3 1::U::U::U::u 0::[])) K10 bel fun u6 w6 D bel=>?_
  have E6_1:=D.q 1
  replace F4:=D.o L4 F4
  clear D
  refine wp_ret ?_
  refine ret_ok rfl (by exact results_tmp' rfl (by exact E6_1)) ⟨_,rfl,?_,bel⟩
  exact into_eq (num_p dc7) (VP.at F4 L4)
end Go.Proofs.YtcdbmjnipaochaaGreat
namespace Go.Proofs.YtcdbmjnipaochaaGreat
open Go.RowKit Rgn Eng
variable {S:Nat→Prop} {W:World}
theorem eTold{v0:Value}(x:Cx)(t0:(NumP x).p S v0 W)(p0:ht x.re+ht x.im≤68719476736):Calls Tryz.prog 218 #[v0] W (RetV (.tuple #[rgV (gcut x),.int .i64 (gerr x)]) W):=by
 refine Run.goP (S:=S) (Pack.nil.s spNum t0) Tryz.func218 rfl ?_
 refine Run.cV ((rfC (fcut x.re)).toList++[.int .i64 (ferr x.re)]) (.tup [.agg (ks 0 4),.o (.k 4)]) (fun _ _ _ H=>eFrac x.re (H.f 0) (by omega)) ?_
 refine Run.cV ((rfC (fcut x.im)).toList++[.int .i64 (ferr x.im)]) (.tup [.agg (ks 0 4),.o (.k 4)]) (fun _ _ _ H=>eFrac x.im (H.f 1) (by omega)) ?_
 refine Run.ic (ferr x.re) 0 ((ferr x.re) != 0) ?_
 refine (Bool.eq_false_or_eq_true ((ferr x.re) != 0)).elim (fun c1=>?_) (fun c1=>?_)
 · refine Run.kn c1 ?_
   exact Run.rV (gcut_no (.inl c1))
 · refine Run.kn c1 ?_
   refine Run.ic (ferr x.im) 0 ((ferr x.im) != 0) ?_
   refine (Bool.eq_false_or_eq_true ((ferr x.im) != 0)).elim (fun c2=>?_) (fun c2=>?_)
   · refine Run.kn c2 ?_
     exact Run.rV (gcut_no (.inr c2))
   · refine Run.kn c2 ?_
     exact Run.rV (gcut_yes c1 c2)
theorem eRatOk(x:Rat)(p0:fits (rf x)=true):Calls Tryz.prog 136 #[fV x] W (Ret (RatP x) S W):=by
 have n0:=hi_num x
 have n2:=hi_den x
 have f0:=efits_le p0
 have f1:ht (Rat.divInt x.num (x.den:Int))≤8200:=by rw [fr_self];exact f0
 have f2:=hi_num (Rat.divInt x.num (x.den:Int))
 have f3:=hi_den (Rat.divInt x.num (x.den:Int))
 have f4:=fits_two p0
 refine Run.goP (S:=S) (Pack.nil.k (fV x) (fC x).toList (.s (.agg (ks 0 4)))) Tryz.func136 rfl ?_
 refine Run.cV [.bool (wformed (rw x.num))] kb (fun _ _ _ H=>eFormed (rw x.num)) ?_
 refine Run.kn (wformed_rw x.num) ?_
 refine Run.cV [.bool (wformed (rw (x.den:Int)))] kb (fun _ _ _ H=>eFormed (rw (x.den:Int))) ?_
 refine Run.kn (wformed_rw (x.den:Int)) ?_
 refine Run.kn (den_nn x) ?_
 refine Run.bi (op:=.eql) (t:=9) (a:=.string (bS (x.den:Int).natAbs)) (c:=.string ⟨#[]⟩) [] (cb false) (fun w o ρ u v t' ho hx hy=>ex_seq Tryz.underlying9 _ (den_na x) ho hx hy) ?_
 refine Run.sl (bS x.num.natAbs) 9 Tryz.underlying9 ?_
 refine Run.ik .gtr (((bS x.num.natAbs).size:Nat):Int) 1024 false (congrArg some (decide_eq_false (show ¬ (1024:Int)<(((bS x.num.natAbs).size:Nat):Int) by have:=f4.1;omega))) ?_
 refine Run.sl (bS (x.den:Int).natAbs) 9 Tryz.underlying9 ?_
 refine Run.ik .gtr (((bS (x.den:Int).natAbs).size:Nat):Int) 1024 false (congrArg some (decide_eq_false (show ¬ (1024:Int)<(((bS (x.den:Int).natAbs).size:Nat):Int) by have:=f4.2;omega))) ?_
 refine Run.dr ?_
 refine RunD.cR spInto (fun _ _ _ H=>eWhole x.num (by omega)) ?_
 refine RunD.cR spInto (fun _ _ _ H=>eWhole (x.den:Int) (by omega)) ?_
 refine RunD.en ?_
 refine Run.cO 1 softRat (fun _ _ _ H=>qSetFrac x.num (x.den:Int) (RatP.blk (H.oz 1)) (IntO.p (anyV (H.f 0))) (IntO.p (anyV (H.f 1))) (by omega) (den_ne x)) ?_
 refine Run.se 1 ?_
 refine Run.cR spInto (fun _ _ _ H=>qNum (Rat.divInt x.num (x.den:Int)) (H.s 1) (by omega)) ?_
 refine Run.cV [.int .i64 (icmp (Rat.divInt x.num (x.den:Int)).num x.num)] kb (fun _ _ _ H=>bCmp (Rat.divInt x.num (x.den:Int)).num x.num (IntO.p (H.f 3)) (IntO.p (H.f 0)) (by omega)) ?_
 refine Run.ik .neq (icmp (Rat.divInt x.num (x.den:Int)).num x.num) 0 false (congrArg some (back_num x)) ?_
 refine Run.cR spInto (fun _ _ _ H=>qDenom (Rat.divInt x.num (x.den:Int)) (H.s 1) (by omega)) ?_
 refine Run.cV [.int .i64 (icmp ((Rat.divInt x.num (x.den:Int)).den:Int) (x.den:Int))] kb (fun _ _ _ H=>bCmp ((Rat.divInt x.num (x.den:Int)).den:Int) (x.den:Int) (IntO.p (H.f 4)) (IntO.p (H.f 1)) (by omega)) ?_
 refine Run.ik .neq (icmp ((Rat.divInt x.num (x.den:Int)).den:Int) (x.den:Int)) 0 false (congrArg some (back_den x)) ?_
 have e:RatP x=RatP (Rat.divInt x.num (x.den:Int)):=by rw [fr_self]
 rw [e]
 exact Run.rR (fun _ _ _ H=>H.s 1)
end Go.Proofs.YtcdbmjnipaochaaGreat
namespace Go.Proofs.YtcdbmjnipaochaaGreat
open Go.RowKit Rgn
variable {S:Nat→Prop} {W:World}
theorem eOf(x:Cx)(p0:gfits (rg x)=true):Calls Tryz.prog 241 #[gV x] W (Ret (VP.tup (NumP x) (VP.is (.bool true))) S W):=by
 have bel:=b0 W
 go_enter Tryz.func241,Tryz.ntmps241
 refine gs 3 (Amb S W) fun _ K1=>?_
 refine .bx rfl (fun H=>H.v 0 (gV x)) ?_
 refine .al rfl (#[.pointer none,.pointer none]) ?_
 refine .mc rfl ?_
 refine .dk (fun u=>gV x::sq u 0 3 (us 17)) K1 bel fun u1 w1 D bel=>?_
 obtain⟨b2,E1_0,A2,B2⟩:=D.nw 0
 obtain⟨b3,E1_1,A3,B3⟩:=D.nw 1
 have E1_2:=D.q 2
 have N2_3:=D.n2 0 1 E1_0 E1_1
 clear D
 refine gd 8 (Amb S W) fun _ K4=>?_
 refine .fz rfl 1 0 E1_0 ?_
 refine .lp rfl 0 (fC x.re) B2 ?_
 refine .cR rfl [] Tryz.func136 (fun H=>⟨_,ar1 (H.g 7 1),eRatOk _ (by first|exact (and_tt p0).1|exact (and_tt p0).2)⟩) ?_
 refine .fz rfl 1 4 E1_0 ?_
 refine .lp rfl 3 (fC x.im) B2 ?_
 refine .cR rfl [] Tryz.func136 (fun H=>⟨_,ar1 (H.g 10 4),eRatOk _ (by first|exact (and_tt p0).1|exact (and_tt p0).2)⟩) ?_
 refine .mn rfl 2 [2] ?_
 refine .mn rfl 5 [5] ?_
 refine .dk (fun u=>gV x::sq u1 0 3 (u 6::u 7::sq u 0 6 (us 9))) K4 bel fun u2 w2 D bel=>?_
 obtain⟨b5,E2_6,L5,F5⟩:=RatP.elim (D.rr 6)
 obtain⟨b6,E2_7,L6,F6⟩:=RatP.elim (D.rr 7)
 replace B3:=D.k B3
 clear D
 refine gs1 11 (Amb S W) 9 B3 fun _ K7=>?_
 refine .mz rfl 4 E2_6 ?_
 refine .mz rfl 5 E2_7 ?_
 refine .e rfl (V:=.agg #[pt b5,pt b6]) (fun H=>by have e12:=H.g 12 0;have e13:=H.g 13 1;clear H;go_simp) ?_
 refine .mz rfl 4 E2_6 ?_
 refine .e rfl (V:=.bool true) (fun H=>x_pnN (H.g 15 3) (H.c _)) ?_
 refine .mv rfl 4 ?_
 refine .mz rfl 5 E2_7 ?_ (hg:=gq 5 rfl)
 refine .e rfl (V:=.bool true) (fun H=>x_pnN (H.g 18 6) (H.c _)) ?_ (hg:=gq 5 rfl)
 refine .e rfl (fun H=>x_pkT (H.g 17 5) (H.g 19 7)) ?_
 refine .s1 rfl B3 (fun H=>⟨H.z 2 E1_1,H.g 14 2⟩) ?_
 refine .mv rfl 8 ?_
 refine .d1 (fun u=>gV x::u1 0::u1 1::u 10::u2 6::u2 7::sq u2 0 6 (sq u 0 9 [])) K7 bel A3 fun u3 w3 D bel=>?_
 have E3_10:=D.q 10
 replace B3:=D.ol 9
 replace F5:=D.o L5 F5
 replace F6:=D.o L6 F6
 clear D
 refine wp_ret ?_
 refine ret_ok rfl (by exact results_mix rfl (by exact E1_1) B3 Tryz.underlying145 rfl (by kernel_rfl) (by exact E3_10)) ⟨_,rfl,?_,bel⟩
 exact⟨_,_,rfl,(NumP.mk (RatP.n (VP.at F5 L5)) (RatP.n (VP.at F6 L6))),rfl⟩
end Go.Proofs.YtcdbmjnipaochaaGreat
namespace Go.Proofs.YtcdbmjnipaochaaGreat
open Go.RowKit Rgn Eng
variable {S:Nat→Prop} {W:World}
theorem eReal{v0:Value}(x:Rat)(t0:(RatP x).p S v0 W):Calls Tryz.prog 94 #[v0] W (Ret (NumP ⟨x,0⟩) S W):=by
 refine Run.goP (S:=S) (Pack.nil.s spRat t0) Tryz.func94 rfl ?_
 exact Run.rR (fun _ _ _ H=>NumP.mk (RatP.n (H.f 0)) (RatN.nil rfl))
theorem eSum2{v0:Value}(x y:Rat)(t0:(RatsP [x,y]).p S v0 W)(p0:ht x+ht y≤34359738000):Calls Tryz.prog 219 #[v0] W (Ret (RatP ((0:Rat)+x+y)) Z0 W):=by
 have z0:=ht_zero
 have h1:=ht_add 0 x
 obtain⟨b0,ys0,rfl,B0,F0⟩:=ratsCells2 t0
 refine Run.goP (S:=S) (Pack.nil.bv B0 (some 2) 2 F0) Tryz.func219 rfl ?_
 refine Run.cO 1 softRat (fun _ _ _ H=>qAdd (0:Rat) x (RatP.blk (H.oz 1)) (anyV (H.oz 1)) (anyV (H.f 0)) (by first|omega|(dsimp only at *;omega))) ?_
 refine Run.cO 1 softRat (fun _ _ _ H=>qAdd ((0:Rat)+x) y (RatP.blk (q:=(0:Rat)+x) (H.o 1)) (anyV (H.o 1)) (anyV (H.f 1)) (by first|omega|(dsimp only at *;omega))) ?_
 exact Run.rN (φ:=RatP ((0:Rat)+x+y)) 1 (fun _ _ _ H=>⟨H.ow 1,H.o 1⟩)
end Go.Proofs.YtcdbmjnipaochaaGreat
namespace Go.Proofs.YtcdbmjnipaochaaGreat
open Go.RowKit Rgn
theorem gerr_1{x:Cx}(h:((gerr x) != 0)=true):gfits (rg x)=false:=by
 unfold gerr at h
 cases e:gfits (rg x) with
 | false=>rfl
 | true=>rw [if_pos e] at h;exact absurd h (by decide)
theorem gerr_0{x:Cx}(h:((gerr x) != 0)=false):gfits (rg x)=true:=by
 unfold gerr at h
 cases e:gfits (rg x) with
 | true=>rfl
 | false=>rw [if_neg (by rw [e];decide)] at h;exact absurd h (by decide)
theorem cifits_no{c:Ci}(h:((ferr c.a) != 0)=true∨((gerr c.b) != 0)=true∨((ferr c.c) != 0)=true):cifits (rci c)=false:=by
 show (fits (rf c.a)&&gfits (rg c.b)&&fits (rf c.c))=false
 rcases h with h|h|h
 ·rw [ferr_1 h];simp
 ·rw [gerr_1 h];simp
 ·rw [ferr_1 h];simp
theorem ccut_no{c:Ci}(h:((ferr c.a) != 0)=true∨((gerr c.b) != 0)=true∨((ferr c.c) != 0)=true):Value.tuple #[.agg zCi,.int .i64 4]=.tuple #[rciV (cicut c),.int .i64 (cierr c)]:=by
 unfold cicut cierr
 rw [if_neg (by rw [cifits_no h];decide),if_neg (by rw [cifits_no h];decide)]
theorem ccut_yes{c:Ci}(h1:((ferr c.a) != 0)=false)(h2:((gerr c.b) != 0)=false)(h3:((ferr c.c) != 0)=false):Value.tuple #[.agg #[.bool (fcut c.a).a.n,.string (fcut c.a).a.s,.bool (fcut c.a).b.n,.string (fcut c.a).b.s,.bool (gcut c.b).re.a.n,.string (gcut c.b).re.a.s,.bool (gcut c.b).re.b.n,.string (gcut c.b).re.b.s,.bool (gcut c.b).im.a.n,.string (gcut c.b).im.a.s,.bool (gcut c.b).im.b.n,.string (gcut c.b).im.b.s,.bool (fcut c.c).a.n,.string (fcut c.c).a.s,.bool (fcut c.c).b.n,.string (fcut c.c).b.s],.int .i64 0]=.tuple #[rciV (cicut c),.int .i64 (cierr c)]:=by
 have e:cifits (rci c)=true:=by
  show (fits (rf c.a)&&gfits (rg c.b)&&fits (rf c.c))=true
  rw [ferr_0 h1,gerr_0 h2,ferr_0 h3];rfl
 unfold cicut cierr fcut gcut
 rw [if_pos e,if_pos e,if_pos (ferr_0 h1),if_pos (gerr_0 h2),if_pos (ferr_0 h3)]
def Ci.side(c:Ci)(p:Pn):Int:=if p.inf=true then c.a.num.sign else (c.val p.z).num.sign
def Ci.dot(c d:Ci):Rat:=(c.a*d.c+d.a*c.c)*Rat.divInt (1:Int) (2:Int)-(c.b.mul d.b.conj).re
def Ci.plus(c d:Ci):Ci:=⟨c.a+d.a,c.b.add d.b,c.c+d.c⟩
@[reducible] def Ci.times(c:Ci)(x:Rat):Ci:=⟨c.a*x,c.b.scale x,c.c*x⟩
def Ci.out(c:Ci):Ci:=⟨-c.a,c.b.neg,-c.c⟩
@[reducible] def Ci.rim(c:Ci):Ci:=⟨c.a,c.b.conj.neg,c.c⟩
def Ci.touch(c d:Ci):Bool:=decide (c.dot d=1) && !decide (c=d.out)
theorem dot_eq(c d:Ci):((0:Rat)+c.a*d.c+d.a*c.c)*Rat.divInt (1:Int) (2:Int)-(c.b.mul d.b.conj).re=c.dot d:=by unfold Ci.dot;rw [Rat.zero_add]
theorem plus_eq(c d:Ci):Ci.mk ((0:Rat)+c.a+d.a) (c.b.add d.b) ((0:Rat)+c.c+d.c)=c.plus d:=by unfold Ci.plus;rw [Rat.zero_add,Rat.zero_add]
theorem neg_one_mul(x:Rat):x*Rat.divInt (-1:Int) (1:Int)=-x:=by
 rw [divInt_one]
 show x*((-1:Int):Rat)=-x
 have:(((-1:Int)):Rat)=-1:=rfl
 rw [this];grind
theorem out_eq(c:Ci):c.times (Rat.divInt (-1:Int) (1:Int))=c.out:=by
 unfold Ci.times Ci.out
 rw [neg_one_mul,neg_one_mul,show c.b.scale (Rat.divInt (-1:Int) (1:Int))=c.b.neg from Cx.ext' (neg_one_mul _) (neg_one_mul _)]
theorem dot_ht(c d:Ci):ht (c.dot d)≤2*(ht c.a+ht c.b.re+ht c.b.im+ht c.c+(ht d.a+ht d.b.re+ht d.b.im+ht d.c))+3:=by
 have z2:ht (Rat.divInt (1:Int) (2:Int))=3:=by decide
 have h1:=ht_mul c.a d.c
 have h2:=ht_mul d.a c.c
 have h3:=hc_conj d.b
 have h4:=hc_mul c.b d.b.conj
 have h5:=ht_add (c.a*d.c) (d.a*c.c)
 have h6:=ht_mul (c.a*d.c+d.a*c.c) (Rat.divInt (1:Int) (2:Int))
 have h7:=ht_sub ((c.a*d.c+d.a*c.c)*Rat.divInt (1:Int) (2:Int)) (c.b.mul d.b.conj).re
 unfold Ci.dot
 omega
theorem out_ht(c:Ci):ht c.out.a=ht c.a∧ht c.out.b.re=ht c.b.re∧ht c.out.b.im=ht c.b.im∧ht c.out.c=ht c.c:=⟨ht_neg _,ht_neg _,ht_neg _,ht_neg _⟩
theorem divInt_11:Rat.divInt (1:Int) (1:Int)=1:=divInt_one 1
theorem touch_1{c d:Ci}(h:(icmp ((c.dot d).num*((Rat.divInt (1:Int) (1:Int)).den:Int)) ((Rat.divInt (1:Int) (1:Int)).num*((c.dot d).den:Int)) == 0)=true):Value.bool (!decide (c=d.out))=.bool (c.touch d):=by
 rw [icmp_b,divInt_11] at h
 unfold Ci.touch;rw [h];rfl
theorem touch_0{c d:Ci}(h:(icmp ((c.dot d).num*((Rat.divInt (1:Int) (1:Int)).den:Int)) ((Rat.divInt (1:Int) (1:Int)).num*((c.dot d).den:Int)) == 0)=false):Value.bool false=.bool (c.touch d):=by
 rw [icmp_b,divInt_11] at h
 unfold Ci.touch;rw [h];rfl
end Go.Proofs.YtcdbmjnipaochaaGreat
namespace Go.Proofs.YtcdbmjnipaochaaGreat
open Go.RowKit Rgn Eng
variable {S:Nat→Prop} {W:World}
theorem eSame{v0 v1:Value}(x y:Cx)(t0:(NumP x).p S v0 W)(t1:(NumP y).p S v1 W)(p0:ht x.re+ht x.im+ht y.re+ht y.im≤17179869184):Calls Tryz.prog 98 #[v0,v1] W (RetV (.bool ((x.sub y).zero)) W):=by
 have h1:=hc_sub x y
 refine Run.goP (S:=S) ((Pack.nil.s spNum t0).s spNum t1) Tryz.func98 rfl ?_
 refine Run.cR spNum (fun _ _ _ H=>eSub x y (NumP.mk (H.f 0) (H.f 1)) (NumP.mk (H.f 2) (H.f 3)) p0) ?_
 refine Run.cV [.bool ((x.sub y).zero)] kb (fun _ _ _ H=>eZero (x.sub y) (NumP.mk (H.f 4) (H.f 5))) ?_
 exact Run.rV rfl
end Go.Proofs.YtcdbmjnipaochaaGreat
namespace Go.Proofs.YtcdbmjnipaochaaGreat
open Go.RowKit Rgn
variable {S:Nat→Prop} {W:World}
theorem dsBy{v0 v1:Value}(c d:Ci)(t0:(RingP c).p S v0 W)(t1:(RingP d).p S v1 W)(p0:ht c.a+ht c.b.re+ht c.b.im+ht c.c+(ht d.a+ht d.b.re+ht d.b.im+ht d.c)≤67108864):Calls Tryz.prog 174 #[v0,v1] W (Ret (RatP (c.dot d)) S W):=by
 obtain⟨b1,x2,x3,b4,rfl,L1,L4,F1,F_x2,F_x3,F4⟩:=RingP.elim t0
 replace L1:Amb S W b1:=.inl L1
 replace F_x2:(RatN c.b.re).p (Amb S W) x2 W:=(RatN c.b.re).mono (fun _ _ h=>.inl h) F_x2
 replace F_x3:(RatN c.b.im).p (Amb S W) x3 W:=(RatN c.b.im).mono (fun _ _ h=>.inl h) F_x3
 replace L4:Amb S W b4:=.inl L4
 obtain⟨b5,x6,x7,b8,rfl,L5,L8,F5,F_x6,F_x7,F8⟩:=RingP.elim t1
 replace L5:Amb S W b5:=.inl L5
 replace F_x6:(RatN d.b.re).p (Amb S W) x6 W:=(RatN d.b.re).mono (fun _ _ h=>.inl h) F_x6
 replace F_x7:(RatN d.b.im).p (Amb S W) x7 W:=(RatN d.b.im).mono (fun _ _ h=>.inl h) F_x7
 replace L8:Amb S W b8:=.inl L8
 have z2:ht (Rat.divInt (1:Int) (2:Int))=3:=by decide
 have h1:=ht_mul c.a d.c
 have h2:=ht_mul d.a c.c
 have h3:=hc_conj d.b
 have h4:=hc_mul c.b d.b.conj
 have z0:=ht_zero
 have h5:=ht_add 0 (c.a*d.c)
 have h6:=ht_add (0+c.a*d.c) (d.a*c.c)
 have h7:=ht_mul (0+c.a*d.c+d.a*c.c) (Rat.divInt (1:Int) (2:Int))
 have bel:=b0 W
 go_enter Tryz.func174,Tryz.ntmps174
 refine gs 3 (Amb S W) fun _ K9=>?_
 refine .bx rfl (fun H=>H.v 0 (.agg #[pt b1,x2,x3,pt b4])) ?_
 refine .bx rfl (fun H=>H.v 1 (.agg #[pt b5,x6,x7,pt b8])) ?_
 refine .mc rfl ?_
 refine .dk (fun u=>.agg #[pt b1,x2,x3,pt b4]::.agg #[pt b5,x6,x7,pt b8]::sq u 0 3 (us 31)) K9 bel fun u1 w1 D bel=>?_
 obtain⟨b10,E1_0,A10,B10⟩:=D.nw 0
 obtain⟨b11,E1_1,A11,B11⟩:=D.nw 1
 have E1_2:=D.q 2
 replace F1:=D.o L1 F1
 replace F4:=D.o L4 F4
 replace F5:=D.o L5 F5
 replace F8:=D.o L8 F8
 replace F_x2:=D.gr (RatN c.b.re) F_x2
 replace F_x3:=D.gr (RatN c.b.im) F_x3
 replace F_x6:=D.gr (RatN d.b.re) F_x6
 replace F_x7:=D.gr (RatN d.b.im) F_x7
 clear D
 refine gd 13 (Amb S W) fun _ K12=>?_
 refine .fz rfl 2 0 E1_0 ?_
 refine .lc rfl 0 B10 ?_ (V:=pt b1)
 refine .fz rfl 3 3 E1_1 ?_
 refine .lc rfl 2 B11 ?_ (V:=pt b8)
 refine .cR rfl [] Tryz.func225 (fun H=>⟨_,ar2 (H.g 9 1) (H.g 11 3),eMul _ _ (RatP.n (H.was _ [] (VP.at F1 L1))) (RatP.n (H.was _ [] (VP.at F8 L8))) (by first|omega|(dsimp only at *;omega))⟩) ?_
 refine .fz rfl 3 0 E1_1 ?_
 refine .lc rfl 5 B11 ?_ (V:=pt b5)
 refine .fz rfl 2 3 E1_0 ?_
 refine .lc rfl 7 B10 ?_ (V:=pt b4)
 refine .cR rfl [] Tryz.func225 (fun H=>⟨_,ar2 (H.g 14 6) (H.g 16 8),eMul _ _ (RatP.n (H.was _ [] (VP.at F5 L5))) (RatP.n (H.was _ [] (VP.at F4 L4))) (by first|omega|(dsimp only at *;omega))⟩) ?_
 refine .br2 rfl [4,9] (fun H=>⟨_,_,(H.r 12 4),(H.r 17 9),(SV.sub [4,9] (H.a 4 rfl) rfl),(SV.sub [4,9] (H.a 9 rfl) rfl)⟩) ?_
 refine .cR rfl [4,9,10] Tryz.func219 (fun H=>⟨_,ar1 (H.r 18 10),ofF H.here.base.grow.size (eSum2 _ _ (SV.sub [4,9,10] (H.a 10 rfl) rfl) (by first|omega|(dsimp only at *;omega)))⟩) ?_
 refine .mn rfl 11 [4,9,10,11] ?_
 refine .dk (fun u=>.agg #[pt b1,x2,x3,pt b4]::.agg #[pt b5,x6,x7,pt b8]::sq u1 0 3 (u 12::U::U::sq u 0 12 (us 16))) K12 bel fun u2 w2 D bel=>?_
 obtain⟨b13,E2_12,A13,F13⟩:=RatNw.elim (D.rr 12)
 have N10_13:=Nat.ne_of_lt (Nat.lt_of_lt_of_le (lt_of B10) A13)
 have N11_13:=Nat.ne_of_lt (Nat.lt_of_lt_of_le (lt_of B11) A13)
 have N1_13:=Nat.ne_of_lt (Nat.lt_of_lt_of_le (RatP.lt F1) A13)
 have N4_13:=Nat.ne_of_lt (Nat.lt_of_lt_of_le (RatP.lt F4) A13)
 have N5_13:=Nat.ne_of_lt (Nat.lt_of_lt_of_le (RatP.lt F5) A13)
 have N8_13:=Nat.ne_of_lt (Nat.lt_of_lt_of_le (RatP.lt F8) A13)
 replace A13:=le2 D.le A13
 have L13:Amb S W b13:=.inr A13
 replace B10:=D.k B10
 replace B11:=D.k B11
 replace F1:=D.o L1 F1
 replace F4:=D.o L4 F4
 replace F5:=D.o L5 F5
 replace F8:=D.o L8 F8
 replace F_x2:=D.gr (RatN c.b.re) F_x2
 replace F_x3:=D.gr (RatN c.b.im) F_x3
 replace F_x6:=D.gr (RatN d.b.re) F_x6
 replace F_x7:=D.gr (RatN d.b.im) F_x7
 clear D
 refine gd 12 (Amb S W) fun _ K14=>?_
 refine .fz rfl 2 1 E1_0 ?_
 refine .lp rfl 0 (#[x2,x3]) B10 ?_
 refine .fz rfl 3 1 E1_1 ?_
 refine .lp rfl 2 (#[x6,x7]) B11 ?_
 refine .cR rfl [] Tryz.func188 (fun H=>⟨_,ar1 (H.g 24 3),eConj d.b (NumP.mk (H.was _ [] F_x6) (H.was _ [] F_x7)) (by first|omega|(dsimp only at *;omega))⟩) ?_
 refine .cR rfl [4] Tryz.func96 (fun H=>⟨_,ar2 (H.g 22 1) (H.r 25 4),eNMul c.b d.b.conj (NumP.mk (H.was _ [4] F_x2) (H.was _ [4] F_x3)) (SV.sub [4] (H.a 4 rfl) rfl) (by first|omega|(dsimp only at *;omega))⟩) ?_
 refine .cR rfl [4,5] Tryz.func141 (fun H=>⟨_,ar1 (H.r 26 5),eParts (c.b.mul d.b.conj) (SV.sub [4,5] (H.a 5 rfl) rfl)⟩) ?_
 refine .mn rfl 6 [4,5,6] ?_
 refine Go2.fn (i:=8) rfl (G0 rfl) (.val 8 [4,5,6,7] (RatP ((c.b.mul d.b.conj).re))) (fun u μ ρ H=>by have e20:=H.r 20 7;have h0:=(H.a 7 rfl);obtain⟨x0,x1,h1,h2⟩:=h0;rw [h1] at e20;exact⟨x0,by clear H;go_simp,SP.tupKeep (by decide) (by decide) h2.1⟩) ?_
 refine Go2.fn (i:=9) rfl (G0 rfl) (.val 9 [4,5,6,7] (RatP ((c.b.mul d.b.conj).im))) (fun u μ ρ H=>by have e20:=H.r 20 7;have h0:=(H.a 7 rfl);obtain⟨x0,x1,h1,h2⟩:=h0;rw [h1] at e20;exact⟨x1,by clear H;go_simp,SP.tupKeep (by decide) (by decide) h2.2⟩) ?_
 refine .mn rfl 8 [4,5,6,7,8] ?_
 refine .mn rfl 9 [4,5,6,7,9] ?_
 refine .dk (fun u=>.agg #[pt b1,x2,x3,pt b4]::.agg #[pt b5,x6,x7,pt b8]::sq u1 0 3 (u2 12::u 10::u 11::sq u2 0 12 (u 7::sq u 0 7 (u 8::u 9::us 6)))) K14 bel fun u3 w3 D bel=>?_
 obtain⟨b15,E3_10,L15,F15⟩:=RatP.elim (D.rr 10)
 replace F13:=D.o L13 F13
 clear D
 refine wp_seq_k fun _ K16=>?_
 refine go2_seqT 5 2 rfl (Amb S W) [] [] (Olds.nil _) (by kernel_rfl) ?_
 refine .mz rfl 5 E2_12 ?_
 refine .mz rfl 5 E2_12 ?_
 refine .cR rfl [] Tryz.func154 (fun H=>⟨_,ar2 (H.c (.int .i64 1)) (H.c (.int .i64 2)),qNewRat _ _ (by first|omega|(dsimp only at *;omega)) (by first|omega|(dsimp only at *;omega)) (by first|omega|(dsimp only at *;omega)) (by first|omega|(dsimp only at *;omega)) (by first|omega|(dsimp only at *;omega))⟩) ?_
 refine .cR rfl [2] Tryz.func225 (fun H=>⟨_,ar2 (H.g 31 1) (H.r 32 2),eMul _ _ (RatP.n (H.was _ [2] (VP.at F13 L13))) (RatP.n (SV.sub [2] (H.a 2 rfl) rfl)) (by first|omega|(dsimp only at *;omega))⟩) ?_
 refine .mz rfl 6 E3_10 ?_
 refine .dT (fun u=>.agg #[pt b1,x2,x3,pt b4]::.agg #[pt b5,x6,x7,pt b8]::u1 0::u1 1::u 6::u2 12::u3 10::u3 11::sq u2 0 12 (u3 7::sq u3 0 7 (u3 8::u3 9::sq u 0 6 []))) bel.size _ rfl fun u4 w4 D=>?_
 obtain⟨b17,E4_3,L17,F17⟩:=RatP.elim (D.rr 3)
 have E4_0:=D.q 0
 have E4_4:=D.q 4
 replace F13:=D.o L13 F13
 replace F15:=D.o L15 F15
 replace bel:=D.d.base.bel0 bel bel.size
 clear D
 refine wpT_callO (args:=#[pt b13,pt b17,pt b15]) rfl (ex_call rfl rfl Tryz.func153 (by kernel_rfl) (by kernel_rfl) (by simp only [List.map_toArray,List.map_cons,List.map_nil];show #[(u4 0).v,(u4 3).v,(u4 4).v]=#[pt b13,pt b17,pt b15];rw [E4_0,E4_3,E4_4])) (qSub (z:=b13) (x:=((0:Rat)+(c.a*d.c)+(d.a*c.c))*(Rat.divInt (1:Int) (2:Int))) (y:=(c.b.mul d.b.conj).re) (RatP.blk F13) (VP.any _ F17) (VP.any _ F15) (by first|omega|(dsimp only at *;omega))) fun w18 fw18 ow18=>?_
 have sw18:Soft w4 b13∨Local w4 b13:=.inl (RatP.soft F13)
 have F13:=fw18
 have L13:Amb S W b13:=.inr A13
 replace bel:=bel.trans (only_below' ow18 A13 bel.size)
 refine wpT_val rfl (ex_assign rfl) ?_
 refine wpList_nil ?_
 show _
 refine K16 _ _ ?_
 refine wp_ret ?_
 refine ret_ok rfl (by exact results_tmp' rfl rfl) ⟨_,rfl,?_,bel⟩
 exact rat_eq (dot_eq c d) (VP.at F13 L13)
end Go.Proofs.YtcdbmjnipaochaaGreat
namespace Go.Proofs.YtcdbmjnipaochaaGreat
open Go.RowKit Rgn Eng
variable {S:Nat→Prop} {W:World}
theorem dsPlus{v0 v1:Value}(c d:Ci)(t0:(RingP c).p S v0 W)(t1:(RingP d).p S v1 W)(p0:ht c.a+ht c.b.re+ht c.b.im+ht c.c+(ht d.a+ht d.b.re+ht d.b.im+ht d.c)≤67108864):Calls Tryz.prog 90 #[v0,v1] W (Ret (RingP (c.plus d)) S W):=by
 refine Run.goP (S:=S) ((Pack.nil.s spRing t0).s spRing t1) Tryz.func90 rfl ?_
 refine Run.dr ?_
 refine RunD.cR spRat (fun _ _ _ H=>retZ (eSum2 c.a d.a (RatsP.mk2 (H.b 3) (H.f 0) (H.f 4)) (by first|omega|(dsimp only at *;omega)))) ?_
 refine RunD.cR spNum (fun _ _ _ H=>eAdd c.b d.b (NumP.mk (H.f 1) (H.f 2)) (NumP.mk (H.f 5) (H.f 6)) (by first|omega|(dsimp only at *;omega))) ?_
 refine RunD.cR spRat (fun _ _ _ H=>retZ (eSum2 c.c d.c (RatsP.mk2 (H.b 4) (H.f 3) (H.f 7)) (by first|omega|(dsimp only at *;omega)))) ?_
 refine RunD.en ?_
 exact Run.rR (fun _ _ _ H=>VPe (φ:=RingP) (plus_eq c d) (RingP.mk (H.f 8) (H.f 9) (H.f 10) (H.f 11)))
theorem dsTimes{v0 v1:Value}(c:Ci)(x:Rat)(t0:(RingP c).p S v0 W)(t1:(RatP x).p S v1 W)(p0:ht c.a+ht c.b.re+ht c.b.im+ht c.c+ht x≤67108864):Calls Tryz.prog 190 #[v0,v1] W (Ret (RingP (c.times x)) S W):=by
 refine Run.goP (S:=S) ((Pack.nil.s spRing t0).s spRat t1) Tryz.func190 rfl ?_
 refine Run.dr ?_
 refine RunD.cR spRat (fun _ _ _ H=>eMul c.a x (RatP.n (H.f 0)) (RatP.n (H.f 4)) (by first|omega|(dsimp only at *;omega))) ?_
 refine RunD.cR spNum (fun _ _ _ H=>eScale c.b x (NumP.mk (H.f 1) (H.f 2)) (RatP.n (H.f 4)) (by first|omega|(dsimp only at *;omega))) ?_
 refine RunD.cR spRat (fun _ _ _ H=>eMul c.c x (RatP.n (H.f 3)) (RatP.n (H.f 4)) (by first|omega|(dsimp only at *;omega))) ?_
 refine RunD.en ?_
 exact Run.rR (fun _ _ _ H=>RingP.mk (H.f 5) (H.f 6) (H.f 7) (H.f 8))
theorem dsOut{v0:Value}(c:Ci)(t0:(RingP c).p S v0 W)(p0:ht c.a+ht c.b.re+ht c.b.im+ht c.c≤67108000):Calls Tryz.prog 108 #[v0] W (Ret (RingP c.out) S W):=by
 have z2:ht (Rat.divInt (-1:Int) (1:Int))=2:=by decide
 refine Run.goP (S:=S) (Pack.nil.s spRing t0) Tryz.func108 rfl ?_
 refine Run.dr ?_
 refine RunD.cR spRat (fun _ _ _ H=>qNewRat (-1) 1 (by decide) (by decide) (by decide) (by decide) (by decide)) ?_
 refine RunD.cR spRing (fun _ _ _ H=>dsTimes c (Rat.divInt (-1) 1) (RingP.mk (H.f 0) (H.f 1) (H.f 2) (H.f 3)) (H.f 4) (by first|omega|(dsimp only at *;omega))) ?_
 refine RunD.en ?_
 exact Run.rR (fun _ _ _ H=>VPe (φ:=RingP) (out_eq c) (RingP.mk (H.f 5) (H.f 6) (H.f 7) (H.f 8)))
theorem dsSame{v0 v1:Value}(c d:Ci)(t0:(RingP c).p S v0 W)(t1:(RingP d).p S v1 W)(p0:ht c.a+ht c.b.re+ht c.b.im+ht c.c+(ht d.a+ht d.b.re+ht d.b.im+ht d.c)≤1073741824):Calls Tryz.prog 143 #[v0,v1] W (RetV (.bool (decide (c=d))) W):=by
 refine Run.goP (S:=S) ((Pack.nil.s spRing t0).s spRing t1) Tryz.func143 rfl ?_
 refine Run.cV [.int .i64 (icmp (c.a.num*(d.a.den:Int)) (d.a.num*(c.a.den:Int)))] kb (fun _ _ _ H=>qCmp c.a d.a (H.f 0) (H.f 4) (by first|omega|(dsimp only at *;omega))) ?_
 refine Run.ic (icmp (c.a.num*(d.a.den:Int)) (d.a.num*(c.a.den:Int))) 0 ((icmp (c.a.num*(d.a.den:Int)) (d.a.num*(c.a.den:Int))) == 0) ?_
 refine (Bool.eq_false_or_eq_true ((icmp (c.a.num*(d.a.den:Int)) (d.a.num*(c.a.den:Int))) == 0)).elim (fun c1=>?_) (fun c1=>?_)
 · refine Run.kn c1 ?_
   refine Run.cV [.bool ((c.b.sub d.b).zero)] kb (fun _ _ _ H=>eSame c.b d.b (NumP.mk (H.f 1) (H.f 2)) (NumP.mk (H.f 5) (H.f 6)) (by first|omega|(dsimp only at *;omega))) ?_
   refine (Bool.eq_false_or_eq_true ((c.b.sub d.b).zero)).elim (fun c2=>?_) (fun c2=>?_)
   · refine Run.kn c2 ?_
     refine Run.cV [.int .i64 (icmp (c.c.num*(d.c.den:Int)) (d.c.num*(c.c.den:Int)))] kb (fun _ _ _ H=>qCmp c.c d.c (H.f 3) (H.f 7) (by first|omega|(dsimp only at *;omega))) ?_
     refine Run.ic (icmp (c.c.num*(d.c.den:Int)) (d.c.num*(c.c.den:Int))) 0 ((icmp (c.c.num*(d.c.den:Int)) (d.c.num*(c.c.den:Int))) == 0) ?_
     exact Run.rV (V' := .bool ((icmp (c.c.num*(d.c.den:Int)) (d.c.num*(c.c.den:Int))) == 0)) (by rw [← sm_dec];unfold Ci.sm;rw [c1,c2];rfl)
   · refine Run.kn c2 ?_
     exact Run.rV (V' := .bool false) (by rw [← sm_dec];unfold Ci.sm;rw [c1,c2];rfl)
 · refine Run.kn c1 ?_
   exact Run.rV (V' := .bool false) (by rw [← sm_dec];unfold Ci.sm;rw [c1];rfl)
theorem dsTold{v0:Value}(c:Ci)(t0:(RingP c).p S v0 W)(p0:ht c.a+ht c.b.re+ht c.b.im+ht c.c≤1073741824):Calls Tryz.prog 89 #[v0] W (RetV (.tuple #[rciV (cicut c),.int .i64 (cierr c)]) W):=by
 refine Run.goP (S:=S) (Pack.nil.s spRing t0) Tryz.func89 rfl ?_
 refine Run.cV ((rfC (fcut c.a)).toList++[.int .i64 (ferr c.a)]) (.tup [.agg (ks 0 4),.o (.k 4)]) (fun _ _ _ H=>eFrac c.a (RatP.n (H.f 0)) (by first|omega|(dsimp only at *;omega))) ?_
 refine Run.cV ((rgC (gcut c.b)).toList++[.int .i64 (gerr c.b)]) (.tup [.agg (ks 0 8),.o (.k 8)]) (fun _ _ _ H=>eTold c.b (NumP.mk (H.f 1) (H.f 2)) (by first|omega|(dsimp only at *;omega))) ?_
 refine Run.cV ((rfC (fcut c.c)).toList++[.int .i64 (ferr c.c)]) (.tup [.agg (ks 0 4),.o (.k 4)]) (fun _ _ _ H=>eFrac c.c (RatP.n (H.f 3)) (by first|omega|(dsimp only at *;omega))) ?_
 refine Run.ic (ferr c.a) 0 ((ferr c.a) != 0) ?_
 refine (Bool.eq_false_or_eq_true ((ferr c.a) != 0)).elim (fun c1=>?_) (fun c1=>?_)
 · refine Run.kn c1 ?_
   exact Run.rV (ccut_no (.inl c1))
 · refine Run.kn c1 ?_
   refine Run.ic (gerr c.b) 0 ((gerr c.b) != 0) ?_
   refine (Bool.eq_false_or_eq_true ((gerr c.b) != 0)).elim (fun c2=>?_) (fun c2=>?_)
   · refine Run.kn c2 ?_
     exact Run.rV (ccut_no (.inr (.inl c2)))
   · refine Run.kn c2 ?_
     refine Run.ic (ferr c.c) 0 ((ferr c.c) != 0) ?_
     refine (Bool.eq_false_or_eq_true ((ferr c.c) != 0)).elim (fun c3=>?_) (fun c3=>?_)
     · refine Run.kn c3 ?_
       exact Run.rV (ccut_no (.inr (.inr c3)))
     · refine Run.kn c3 ?_
       exact Run.rV (ccut_yes c1 c2 c3)
end Go.Proofs.YtcdbmjnipaochaaGreat
namespace Go.Proofs.YtcdbmjnipaochaaGreat
open Go.RowKit Rgn
variable {S:Nat→Prop} {W:World}
theorem dsTouch{v0 v1:Value}(c d:Ci)(t0:(RingP c).p S v0 W)(t1:(RingP d).p S v1 W)(p0:ht c.a+ht c.b.re+ht c.b.im+ht c.c+(ht d.a+ht d.b.re+ht d.b.im+ht d.c)≤67108000):Calls Tryz.prog 232 #[v0,v1] W (RetV (.bool (c.touch d)) W):=by
 obtain⟨b1,x2,x3,b4,rfl,L1,L4,F1,F_x2,F_x3,F4⟩:=RingP.elim t0
 replace L1:Amb S W b1:=.inl L1
 replace F_x2:(RatN c.b.re).p (Amb S W) x2 W:=(RatN c.b.re).mono (fun _ _ h=>.inl h) F_x2
 replace F_x3:(RatN c.b.im).p (Amb S W) x3 W:=(RatN c.b.im).mono (fun _ _ h=>.inl h) F_x3
 replace L4:Amb S W b4:=.inl L4
 obtain⟨b5,x6,x7,b8,rfl,L5,L8,F5,F_x6,F_x7,F8⟩:=RingP.elim t1
 replace L5:Amb S W b5:=.inl L5
 replace F_x6:(RatN d.b.re).p (Amb S W) x6 W:=(RatN d.b.re).mono (fun _ _ h=>.inl h) F_x6
 replace F_x7:(RatN d.b.im).p (Amb S W) x7 W:=(RatN d.b.im).mono (fun _ _ h=>.inl h) F_x7
 replace L8:Amb S W b8:=.inl L8
 have h1:=dot_ht c d
 have h2:=out_ht d
 have z2:ht (Rat.divInt (1:Int) (1:Int))=2:=by decide
 have bel:=b0 W
 go_enter Tryz.func232,Tryz.ntmps232
 refine gs 3 (Amb S W) fun _ K9=>?_
 refine .bx rfl (fun H=>H.v 0 (.agg #[pt b1,x2,x3,pt b4])) ?_
 refine .bx rfl (fun H=>H.v 1 (.agg #[pt b5,x6,x7,pt b8])) ?_
 refine .mc rfl ?_
 refine .dk (fun u=>.agg #[pt b1,x2,x3,pt b4]::.agg #[pt b5,x6,x7,pt b8]::sq u 0 3 (us 13)) K9 bel fun u1 w1 D bel=>?_
 obtain⟨b10,E1_0,A10,B10⟩:=D.nw 0
 obtain⟨b11,E1_1,A11,B11⟩:=D.nw 1
 have E1_2:=D.q 2
 replace F1:=D.o L1 F1
 replace F4:=D.o L4 F4
 replace F5:=D.o L5 F5
 replace F8:=D.o L8 F8
 replace F_x2:=D.gr (RatN c.b.re) F_x2
 replace F_x3:=D.gr (RatN c.b.im) F_x3
 replace F_x6:=D.gr (RatN d.b.re) F_x6
 replace F_x7:=D.gr (RatN d.b.im) F_x7
 clear D
 rcases Bool.eq_false_or_eq_true ((icmp ((c.dot d).num*((Rat.divInt (1:Int) (1:Int)).den:Int)) ((Rat.divInt (1:Int) (1:Int)).num*((c.dot d).den:Int))) == 0) with c13|c13
 ·
  refine gd 14 (Amb S W) fun _ K12=>?_
  refine .lr rfl 2 E1_0 B10 ?_
  refine .lr rfl 3 E1_1 B11 ?_
  refine .cR rfl [] Tryz.func174 (fun H=>⟨_,ar2 (H.g 5 0) (H.g 6 1),dsBy _ _ (RingP.mk (H.was _ [] (VP.at F1 L1)) (H.was _ [] F_x2) (H.was _ [] F_x3) (H.was _ [] (VP.at F4 L4))) (RingP.mk (H.was _ [] (VP.at F5 L5)) (H.was _ [] F_x6) (H.was _ [] F_x7) (H.was _ [] (VP.at F8 L8))) (by omega)⟩) ?_
  refine .cR rfl [] Tryz.func154 (fun H=>⟨_,ar2 (H.c (.int .i64 1)) (H.c (.int .i64 1)),qNewRat _ _ (by omega) (by omega) (by omega) (by omega) (by omega)⟩) ?_
  refine .cK rfl Tryz.func92 (fun H=>⟨_,ar2 (H.r 7 2) (H.r 8 3),qCmp _ _ (SV.any (H.a 2 rfl)) (SV.any (H.a 3 rfl)) (by omega)⟩) ?_
  refine .e rfl (V:=.bool true) (fun H=>x_cm (H.g 9 4) (H.c _) c13) ?_
  refine .mv rfl 5 ?_
  refine .lr rfl 2 E1_0 B10 ?_ (hg:=gq 6 rfl)
  refine .lr rfl 3 E1_1 B11 ?_ (hg:=gq 6 rfl)
  refine .cR rfl [] Tryz.func108 (fun H=>⟨_,ar1 (H.g 13 8),dsOut _ (RingP.mk (H.was _ [] (VP.at F5 L5)) (H.was _ [] F_x6) (H.was _ [] F_x7) (H.was _ [] (VP.at F8 L8))) (by omega)⟩) ?_ (hg:=gq 6 rfl)
  refine .cK rfl Tryz.func143 (fun H=>⟨_,ar2 (H.g 12 7) (H.r 14 9),dsSame _ _ (RingP.mk (VP.any _ (H.was _ [] (VP.at F1 L1))) (VP.any _ (H.was _ [] F_x2)) (VP.any _ (H.was _ [] F_x3)) (VP.any _ (H.was _ [] (VP.at F4 L4)))) (SV.any (H.a 9 rfl)) (by omega)⟩) ?_ (hg:=gq 6 rfl)
  refine .e rfl (V:=.bool (!(decide (c=d.out)))) (fun H=>x_not (H.g 15 10)) ?_ (hg:=gq 6 rfl)
  refine .e rfl (fun H=>x_pkT (H.g 11 6) (H.g 16 11)) ?_
  refine .mv rfl 12 ?_
  refine .dk (fun u=>.agg #[pt b1,x2,x3,pt b4]::.agg #[pt b5,x6,x7,pt b8]::u1 0::u1 1::u 13::sq u 0 13 []) K12 bel fun u2 w2 D bel=>?_
  have E2_13:=D.q 13
  clear D
  exact wp_ret (rt rfl E2_13 (touch_1 c13) bel)
 ·
  refine gd 14 (Amb S W) fun _ K12=>?_
  refine .lr rfl 2 E1_0 B10 ?_
  refine .lr rfl 3 E1_1 B11 ?_
  refine .cR rfl [] Tryz.func174 (fun H=>⟨_,ar2 (H.g 5 0) (H.g 6 1),dsBy _ _ (RingP.mk (H.was _ [] (VP.at F1 L1)) (H.was _ [] F_x2) (H.was _ [] F_x3) (H.was _ [] (VP.at F4 L4))) (RingP.mk (H.was _ [] (VP.at F5 L5)) (H.was _ [] F_x6) (H.was _ [] F_x7) (H.was _ [] (VP.at F8 L8))) (by omega)⟩) ?_
  refine .cR rfl [] Tryz.func154 (fun H=>⟨_,ar2 (H.c (.int .i64 1)) (H.c (.int .i64 1)),qNewRat _ _ (by omega) (by omega) (by omega) (by omega) (by omega)⟩) ?_
  refine .cK rfl Tryz.func92 (fun H=>⟨_,ar2 (H.r 7 2) (H.r 8 3),qCmp _ _ (SV.any (H.a 2 rfl)) (SV.any (H.a 3 rfl)) (by omega)⟩) ?_
  refine .e rfl (V:=.bool false) (fun H=>x_cm (H.g 9 4) (H.c _) c13) ?_
  refine .mv rfl 5 ?_
  refine .sk rfl 6 ?_
  refine .sk rfl 6 ?_
  refine .sk rfl 6 ?_
  refine .sk rfl 6 ?_
  refine .sk rfl 6 ?_
  refine .e rfl (fun H=>x_pkF (H.g 11 6) (H.c _)) ?_
  refine .mv rfl 12 ?_
  refine .dk (fun u=>.agg #[pt b1,x2,x3,pt b4]::.agg #[pt b5,x6,x7,pt b8]::u1 0::u1 1::u 13::sq u 0 13 []) K12 bel fun u2 w2 D bel=>?_
  have E2_13:=D.q 13
  clear D
  exact wp_ret (rt rfl E2_13 (touch_0 c13) bel)
end Go.Proofs.YtcdbmjnipaochaaGreat
namespace Go.Proofs.YtcdbmjnipaochaaGreat
open Go.RowKit Rgn
noncomputable def valM(r:RF):Rat:=if h:fmay r=true then (fmay_ex h).choose else 0
theorem valM_rf{q:Rat}(h:fmay (rf q)=true):valM (rf q)=q:=by
 unfold valM
 rw [dif_pos h]
 exact (rf_inj (fmay_ex h).choose_spec).symm
theorem ratw_yes{x y:Int}(h0:¬ y<0)(h1:¬ y.natAbs=0)(h2:¬ (1024:Int)<(((bS x.natAbs).size:Nat):Int))(h3:¬ (1024:Int)<(((bS y.natAbs).size:Nat):Int))(h4:((icmp ((Rat.divInt x y).num) x) != 0)=false)(h5:((icmp ((Rat.divInt x y).den:Int) y) != 0)=false):fmay (RF.mk (rw x) (rw y))=true:=by
 have e4:(Rat.divInt x y).num=x:=icmp0.1 (by simpa using h4)
 have e5:((Rat.divInt x y).den:Int)=y:=icmp0.1 (by simpa using h5)
 have e:RF.mk (rw x) (rw y)=rf (Rat.divInt x y):=by
  show _=RF.mk (rw (Rat.divInt x y).num) (rw ((Rat.divInt x y).den:Int))
  rw [e4,e5]
 have hf:fits (RF.mk (rw x) (rw y))=true:=by
  unfold fits
  show (decide ((bS x.natAbs).size≤1024)&&decide ((bS y.natAbs).size≤1024))=true
  rw [decide_eq_true (by omega),decide_eq_true (by omega)];rfl
 unfold fmay
 rw [hf,e,fformed_rf];rfl
open Classical in
open Classical in
noncomputable def dsOk(r:RCi):Bool:=decide (∃ c,r=rci c∧cifits (rci c)=true∧c.dot c=-1)
open Classical in
open Classical in
theorem plate_eq(c:Ci):Value.bool (icmp ((c.dot c).num*((Rat.divInt (-1:Int) (1:Int)).den:Int)) ((Rat.divInt (-1:Int) (1:Int)).num*((c.dot c).den:Int)) == 0)=.bool (decide (c.dot c=-1)):=by
 rw [icmp_b,divInt_one];rfl
theorem dsOk_ex{r:RCi}(h:dsOk r=true):∃ c,r=rci c∧cifits (rci c)=true∧c.dot c=-1:=by
 unfold dsOk at h;classical exact of_decide_eq_true h
theorem dsOk_c{c:Ci}(h:dsOk (rci c)=true):cifits (rci c)=true∧c.dot c=-1:=by
 obtain⟨d,e,h⟩:=dsOk_ex h
 obtain rfl:=rci_inj e
 exact h
theorem ci_of{r:RCi}(h1:fmay r.a=true)(h2:gmay r.b=true)(h3:fmay r.c=true):∃ c,r=rci c∧cifits (rci c)=true:=by
 obtain⟨a,b,c⟩:=r
 obtain⟨x,rfl⟩:=fmay_ex h1
 obtain⟨y,rfl⟩:=gmay_ex h2
 obtain⟨z,rfl⟩:=fmay_ex h3
 refine⟨⟨x,y,z⟩,rfl,?_⟩
 show (fits (rf x)&&gfits (rg y)&&fits (rf z))=true
 rw [gmay_rg] at h2
 rw [(and_tt h1).1,h2,(and_tt h3).1];rfl
theorem dsOk_no{r:RCi}(h:dsOk r=false):¬ ∃ c,r=rci c∧cifits (rci c)=true∧c.dot c=-1:=by unfold dsOk at h;classical exact of_decide_eq_false h
theorem dsOk_yes{c:Ci}(h1:cifits (rci c)=true)(h2:c.dot c=-1):dsOk (rci c)=true:=by unfold dsOk;classical exact decide_eq_true ⟨c,rfl,h1,h2⟩
theorem ht_dvI{a b:Int}(h:0<b){n:Nat}(h1:max (hi a) (hi b)≤n):ht (Rat.divInt a b)≤n+1:=by
 obtain⟨m,rfl⟩:=Int.eq_ofNat_of_zero_le (Int.le_of_lt h)
 have e:Rat.divInt a (m:Int)=mkRat a m:=rfl
 rw [e]
 have h2:=hi_bl a
 have h3:=hi_bl (m:Int)
 rw [Int.natAbs_natCast] at h3
 exact ht_mkRat a m (by omega) (by omega) (by omega)
theorem valM_no{r:RF}(h:fmay r=false):valM r=0:=by
 unfold valM
 rw [dif_neg (by rw [h];decide)]
noncomputable def gvm(r:RG):Cx:=⟨valM r.re,valM r.im⟩
end Go.Proofs.YtcdbmjnipaochaaGreat
namespace Go.Proofs.YtcdbmjnipaochaaGreat
open Go.RowKit Rgn Eng
variable {S:Nat→Prop} {W:World}
theorem eRatF0(r:RF)(p0:wformed r.a=false):Calls Tryz.prog 136 #[rfV r] W (RetV (.pointer none) W):=by
 refine Run.goP (S:=Z0) (Pack.nil.k (rfV r) (rfC r).toList (.s (.agg (ks 0 4)))) Tryz.func136 rfl ?_
 refine Run.cV [.bool (wformed r.a)] kb (fun _ _ _ H=>eFormed r.a) ?_
 refine Run.kn p0 ?_
 exact Run.rV rfl
theorem eRatF1(r:RF)(p0:wformed r.a=true)(p1:wformed r.b=false):Calls Tryz.prog 136 #[rfV r] W (RetV (.pointer none) W):=by
 refine Run.goP (S:=Z0) (Pack.nil.k (rfV r) (rfC r).toList (.s (.agg (ks 0 4)))) Tryz.func136 rfl ?_
 refine Run.cV [.bool (wformed r.a)] kb (fun _ _ _ H=>eFormed r.a) ?_
 refine Run.kn p0 ?_
 refine Run.cV [.bool (wformed r.b)] kb (fun _ _ _ H=>eFormed r.b) ?_
 refine Run.kn p1 ?_
 exact Run.rV rfl
theorem eRatW(g:Int×Int)(p0:fmay (RF.mk (rw g.1) (rw g.2))=false):Calls Tryz.prog 136 #[wwV g] W (RetV (.pointer none) W):=by
 have b1:hi g.1≤8*(bS g.1.natAbs).size+1:=hi_bytes g.1
 have b2:hi g.2≤8*(bS g.2.natAbs).size+1:=hi_bytes g.2
 have b3:=hi_num (Rat.divInt g.1 g.2)
 have b4:=hi_den (Rat.divInt g.1 g.2)
 refine Run.goP (S:=Z0) (Pack.nil.k (wwV g) ((wC g.1).toList++(wC g.2).toList) (.s (.agg (ks 0 4)))) Tryz.func136 rfl ?_
 refine Run.cV [.bool (wformed (rw g.1))] kb (fun _ _ _ H=>eFormed (rw g.1)) ?_
 refine Run.kn (wformed_rw g.1) ?_
 refine Run.cV [.bool (wformed (rw g.2))] kb (fun _ _ _ H=>eFormed (rw g.2)) ?_
 refine Run.kn (wformed_rw g.2) ?_
 rcases Bool.eq_false_or_eq_true (decide (g.2<0)) with c5|c5
 · refine Run.kn c5 ?_
   exact Run.rV rfl
 refine Run.kn c5 ?_
 rcases Bool.eq_false_or_eq_true (decide (g.2.natAbs=0)) with c7|c7
 · refine Run.bi (op:=.eql) (t:=9) (a:=.string (bS g.2.natAbs)) (c:=.string ⟨#[]⟩) [] (cb true) (fun w o ρ u v t' ho hx hy=>ex_seq Tryz.underlying9 _ c7 ho hx hy) ?_
   exact Run.rV rfl
 refine Run.bi (op:=.eql) (t:=9) (a:=.string (bS g.2.natAbs)) (c:=.string ⟨#[]⟩) [] (cb false) (fun w o ρ u v t' ho hx hy=>ex_seq Tryz.underlying9 _ c7 ho hx hy) ?_
 refine Run.sl (bS g.1.natAbs) 9 Tryz.underlying9 ?_
 rcases Bool.eq_false_or_eq_true (decide (1024<(((bS g.1.natAbs).size:Nat):Int))) with c9|c9
 · refine Run.ik .gtr (((bS g.1.natAbs).size:Nat):Int) 1024 true (congrArg some c9) ?_
   exact Run.rV rfl
 refine Run.ik .gtr (((bS g.1.natAbs).size:Nat):Int) 1024 false (congrArg some c9) ?_
 refine Run.sl (bS g.2.natAbs) 9 Tryz.underlying9 ?_
 rcases Bool.eq_false_or_eq_true (decide (1024<(((bS g.2.natAbs).size:Nat):Int))) with c11|c11
 · refine Run.ik .gtr (((bS g.2.natAbs).size:Nat):Int) 1024 true (congrArg some c11) ?_
   exact Run.rV rfl
 refine Run.ik .gtr (((bS g.2.natAbs).size:Nat):Int) 1024 false (congrArg some c11) ?_
 have d5:=of_decide_eq_false c5
 have d7:=of_decide_eq_false c7
 have d9:=of_decide_eq_false c9
 have d11:=of_decide_eq_false c11
 have g0:=ht_dvI (a:=g.1) (show 0<g.2 by omega) (Nat.le_refl (max (hi g.1) (hi g.2)))
 refine Run.dr ?_
 refine RunD.cR spInto (fun _ _ _ H=>eWhole g.1 (by omega)) ?_
 refine RunD.cR spInto (fun _ _ _ H=>eWhole g.2 (by omega)) ?_
 refine RunD.en ?_
 refine Run.cO 1 softRat (fun _ _ _ H=>qSetFrac g.1 g.2 (RatP.blk (H.oz 1)) (IntO.p (anyV (H.f 0))) (IntO.p (anyV (H.f 1))) (by omega) (by omega)) ?_
 refine Run.se 1 ?_
 refine Run.cR spInto (fun _ _ _ H=>qNum (Rat.divInt g.1 g.2) (H.s 1) (by omega)) ?_
 refine Run.cV [.int .i64 (icmp (Rat.divInt g.1 g.2).num g.1)] kb (fun _ _ _ H=>bCmp (Rat.divInt g.1 g.2).num g.1 (IntO.p (H.f 3)) (IntO.p (H.f 0)) (by omega)) ?_
 rcases Bool.eq_false_or_eq_true (icmp (Rat.divInt g.1 g.2).num g.1 != 0) with c20|c20
 · refine Run.ik .neq (icmp (Rat.divInt g.1 g.2).num g.1) 0 true (congrArg some c20) ?_
   exact Run.rV rfl
 refine Run.ik .neq (icmp (Rat.divInt g.1 g.2).num g.1) 0 false (congrArg some c20) ?_
 refine Run.cR spInto (fun _ _ _ H=>qDenom (Rat.divInt g.1 g.2) (H.s 1) (by omega)) ?_
 refine Run.cV [.int .i64 (icmp ((Rat.divInt g.1 g.2).den:Int) g.2)] kb (fun _ _ _ H=>bCmp ((Rat.divInt g.1 g.2).den:Int) g.2 (IntO.p (H.f 4)) (IntO.p (H.f 1)) (by omega)) ?_
 rcases Bool.eq_false_or_eq_true (icmp ((Rat.divInt g.1 g.2).den:Int) g.2 != 0) with c22|c22
 · refine Run.ik .neq (icmp ((Rat.divInt g.1 g.2).den:Int) g.2) 0 true (congrArg some c22) ?_
   exact Run.rV rfl
 exact Bool.noConfusion ((ratw_yes d5 d7 d9 d11 c20 c22).symm.trans p0)
end Go.Proofs.YtcdbmjnipaochaaGreat
namespace Go.Proofs.YtcdbmjnipaochaaGreat
open Go.RowKit Rgn
theorem eRatF{W:World}(r:RF)(p0:fmay r=false):Calls Tryz.prog 136 #[rfV r] W (RetV (.pointer none) W):=by
 cases h0:wformed r.a with
 | false=>exact eRatF0 r h0
 | true =>
  cases h1:wformed r.b with
  | false=>exact eRatF1 r h0 h1
  | true =>
   obtain⟨a,b⟩:=r
   obtain⟨x,rfl⟩:=wformed_ex h0
   obtain⟨y,rfl⟩:=wformed_ex h1
   exact eRatW (x,y) p0
theorem eRatT{S:Nat→Prop}{W:World}(r:RF)(p0:fmay r=true):Calls Tryz.prog 136 #[rfV r] W (Ret (RatP (valM r)) S W):=by
 obtain⟨q,rfl⟩:=fmay_ex p0
 rw [valM_rf p0]
 exact eRatOk q (and_tt p0).1
theorem retOf{P:Program}{f:FuncId}{args:Array Value}{W:World}{v:Value}{φ:VP}{S:Nat→Prop}(h:Calls P f args W (RetV v W))(hp:∀ w,φ.p (fun k=>S k∨W.heap.size≤k) v w):Calls P f args W (Ret φ S W) :=
 h.mono fun _ w' h=>by
  obtain⟨h1,h2⟩:=h.is
  exact⟨v,h1,hp w', h2⟩
theorem eRatA{S:Nat→Prop}{W:World}(r:RF):Calls Tryz.prog 136 #[rfV r] W (Ret (PtrP 0) S W):=by
 cases h:fmay r with
 | false=>exact retOf (eRatF r h) fun _=>⟨_,rfl⟩
 | true =>
  have g:=eRatT (S:=S) (W:=W) r h
  exact g.mono fun _ _ ⟨v,h1,h2,h3⟩=>⟨v,h1,RatN.ptr (RatP.n h2),h3⟩
end Go.Proofs.YtcdbmjnipaochaaGreat
namespace Go.Proofs.YtcdbmjnipaochaaGreat
open Go.RowKit Rgn Eng
variable {S:Nat→Prop} {W:World}
theorem eOfR(r:RG):Calls Tryz.prog 241 #[rgV r] W (Ret (VP.tup (NumP (gvm r)) (VP.is (.bool (gmay r)))) S W):=by
 cases c1:fmay r.re with
 | true=>cases c2:fmay r.im with
  | true =>
   refine Run.goP (S:=S) (Pack.nil.k (rgV r) (rgC r).toList (.s (.agg (ks 0 8)))) Tryz.func241 rfl ?_
   refine Run.dr ?_
   refine RunD.cR spRat (fun _ _ _ H=>eRatT r.re c1) ?_
   refine RunD.cR spRat (fun _ _ _ H=>eRatT r.im c2) ?_
   refine RunD.en ?_
   refine Run.np 0 (valM r.re) 143 .neq true (.inr ⟨rfl,rfl⟩) (fun c w=>by kernel_rfl) ?_
   refine Run.np 1 (valM r.im) 143 .neq true (.inr ⟨rfl,rfl⟩) (fun c w=>by kernel_rfl) ?_
   exact Run.rR (fun _ _ _ H=>⟨_,_,rfl,NumP.mk (RatP.n (H.f 0)) (RatP.n (H.f 1)),(by unfold gmay;rw [c1,c2];rfl)⟩)
  | false =>
   refine Run.goP (S:=S) (Pack.nil.k (rgV r) (rgC r).toList (.s (.agg (ks 0 8)))) Tryz.func241 rfl ?_
   refine Run.dr ?_
   refine RunD.cR spRat (fun _ _ _ H=>eRatT r.re c1) ?_
   refine RunD.cV [] (.s (.o (.c (.pointer none)))) (fun _ _ _ H=>eRatF r.im c2) ?_
   refine RunD.en ?_
   refine Run.np 0 (valM r.re) 143 .neq true (.inr ⟨rfl,rfl⟩) (fun c w=>by kernel_rfl) ?_
   refine Run.bi (op:=.neq) (t:=143) (a:=.pointer none) (c:=.pointer none) [] (cb false) (fun w o ρ x y t' ho hx hy=>ex_zn (fun w=>by kernel_rfl) ho hx hy) ?_
   exact Run.rR (fun _ _ _ H=>⟨_,_,rfl,NumP.mk (RatP.n (H.f 0)) (.inl ⟨rfl,valM_no c2⟩),(by unfold gmay;rw [c1,c2];rfl)⟩)
 | false=>cases c2:fmay r.im with
  | true =>
   refine Run.goP (S:=S) (Pack.nil.k (rgV r) (rgC r).toList (.s (.agg (ks 0 8)))) Tryz.func241 rfl ?_
   refine Run.dr ?_
   refine RunD.cV [] (.s (.o (.c (.pointer none)))) (fun _ _ _ H=>eRatF r.re c1) ?_
   refine RunD.cR spRat (fun _ _ _ H=>eRatT r.im c2) ?_
   refine RunD.en ?_
   refine Run.bi (op:=.neq) (t:=143) (a:=.pointer none) (c:=.pointer none) [] (cb false) (fun w o ρ x y t' ho hx hy=>ex_zn (fun w=>by kernel_rfl) ho hx hy) ?_
   exact Run.rR (fun _ _ _ H=>⟨_,_,rfl,NumP.mk (.inl ⟨rfl,valM_no c1⟩) (RatP.n (H.f 0)),(by unfold gmay;rw [c1,c2];rfl)⟩)
  | false =>
   refine Run.goP (S:=S) (Pack.nil.k (rgV r) (rgC r).toList (.s (.agg (ks 0 8)))) Tryz.func241 rfl ?_
   refine Run.dr ?_
   refine RunD.cV [] (.s (.o (.c (.pointer none)))) (fun _ _ _ H=>eRatF r.re c1) ?_
   refine RunD.cV [] (.s (.o (.c (.pointer none)))) (fun _ _ _ H=>eRatF r.im c2) ?_
   refine RunD.en ?_
   refine Run.bi (op:=.neq) (t:=143) (a:=.pointer none) (c:=.pointer none) [] (cb false) (fun w o ρ x y t' ho hx hy=>ex_zn (fun w=>by kernel_rfl) ho hx hy) ?_
   exact Run.rR (fun _ _ _ H=>⟨_,_,rfl,NumP.mk (.inl ⟨rfl,valM_no c1⟩) (.inl ⟨rfl,valM_no c2⟩),(by unfold gmay;rw [c1,c2];rfl)⟩)
end Go.Proofs.YtcdbmjnipaochaaGreat
namespace Go.Proofs.YtcdbmjnipaochaaGreat
open Go.RowKit Rgn
variable {S:Nat→Prop} {W:World}
theorem ePlateA(r:RCi)(p0:gmay r.b=false):Calls Tryz.prog 140 #[rciV r] W (RetV (.tuple #[.agg #[.pointer none,.pointer none,.pointer none,.pointer none],.bool false]) W):=by
 have bel:=b0 W
 go_enter Tryz.func140,Tryz.ntmps140
 refine gs 3 (Amb Z0 W) fun _ K1=>?_
 refine .bx rfl (fun H=>H.v 0 (rciV r)) ?_
 refine .al rfl (#[.pointer none,.pointer none,.pointer none,.pointer none]) ?_
 refine .mc rfl ?_
 refine .dk (fun u=>rciV r::sq u 0 3 (us 37)) K1 bel fun u1 w1 D bel=>?_
 obtain⟨b2,E1_0,A2,B2⟩:=D.nw 0
 obtain⟨b3,E1_1,A3,B3⟩:=D.nw 1
 have E1_2:=D.q 2
 have N2_3:=D.n2 0 1 E1_0 E1_1
 clear D
 refine gs 9 (Amb Z0 W) fun _ K4=>?_
 refine .fz rfl 1 4 E1_0 ?_
 refine .lp rfl 0 (rgC r.b) B2 ?_
 refine .cR rfl [] Tryz.func241 (fun H=>⟨_,ar1 (H.g 9 1),eOfR _⟩) ?_
 refine .mn rfl 2 [2] ?_
 refine Go2.fn (i:=4) rfl (G0 rfl) (.val 4 [2,3] (NumP (gvm r.b))) (fun u μ ρ H=>by have e7:=H.r 7 3;have h0:=(H.a 3 rfl);obtain⟨x0,x1,h1,h2⟩:=h0;rw [h1] at e7;exact⟨x0,by clear H;go_simp,SP.tupKeep (by decide) (by decide) h2.1⟩) ?_
 refine .e rfl (V:=.bool (gmay r.b)) (fun H=>by have e7:=H.r 7 3;have h0:=(H.a 3 rfl);obtain⟨x0,x1,h1,h2,h3⟩:=h0;rw [h1] at e7;have h3:x1=.bool (gmay r.b):=h3;subst h3;clear H;go_simp) ?_
 refine .al rfl (#[.pointer none,.pointer none]) ?_
 refine Go2.storeOwn (i:=7) (m:=6) rfl rfl (.head _) (SP.cells 6 [4] (fun u=>#[((u 4).v.cells.getD 0 undef),((u 4).v.cells.getD 1 undef)]) 145 (by intro u u' h;simp [h 4 (by simp)])) (fun u μ ρ b H h0 hB hb=>?_) ?_
 · have e4:=H.r 4 6;have e11:=H.r 11 4
   rw [h0] at e4
   obtain⟨x1,x2,h1,h2,h3⟩:=(H.a 4 rfl)
   have o1:=VP1.ratn h2
   have o2:=VP1.ratn h3
   rw [h1] at e11
   refine⟨μ.setRow b #[x1,x2],ex_store_row 145 _ _ rfl e4 e11 hb (by kernel_rfl) rfl (by simp [o1,o2]),fun g=>⟨b,?_,hB,?_⟩,setRow_only _ _ _⟩
   · rw [upd_other _ _ (by decide)];exact h0
   · rw [setRow_at hb];try simp [upd,h1,Value.cells]
 refine .e rfl (V:=.bool false) (fun H=>by have e12:=H.g 12 5;have k_:=p0;clear H;go_simp<;>first|(simp_all;done)|omega|exact len_gt z0_) ?_
 refine .dk (fun u=>rciV r::sq u1 0 3 (u 6::u 8::U::u 3::sq u 0 3 (u 4::u 5::us 28))) K4 bel fun u2 w2 D bel=>?_
 obtain⟨x5,x6,E2_4,F_x5,F_x6⟩:=(D.rr 4)
 obtain⟨b7,E2_6,A7,B7⟩:=(D.a 7 rfl)
 replace A7:=le2 D.le A7
 have E2_8:=D.q 8
 have N3_7:=D.n1 6 (lt_of B3) E2_6
 replace B2:=D.k B2
 replace B3:=D.k B3
 simp only [Value.cells,E2_4,E2_6] at B7
 replace B7:w2.heap[b7]? = some (.cells #[x5,x6] 145 (0,0)):=B7
 clear D
 refine gd 10 (Amb Z0 W) fun _ K8=>?_
 refine .fz rfl 1 0 E1_0 ?_
 refine .lp rfl 0 (rfC r.a) B2 ?_
 refine .cR rfl [] Tryz.func136 (fun H=>⟨_,ar1 (H.g 14 1),eRatA _⟩) ?_
 refine .lr rfl 4 E2_6 B7 ?_
 refine .fz rfl 1 12 E1_0 ?_
 refine .lp rfl 4 (rfC r.c) B2 ?_
 refine .cR rfl [] Tryz.func136 (fun H=>⟨_,ar1 (H.g 18 5),eRatA _⟩) ?_
 refine Go2.fn (i:=7) rfl (G0 rfl) (SP.fnL 7 [2,6] (fun u=>.agg #[(u 2).v,x5,x6,(u 6).v]) (by intro u u' h;simp [h 2 (by simp),h 6 (by simp)])) (fun u μ ρ H=>⟨_,by have e15:=H.r 15 2;have e16:=H.g 16 3;have e19:=H.r 19 6;obtain⟨x2,h2⟩:=PtrP.isPtr (H.a 2 rfl);obtain⟨x6,h6⟩:=PtrP.isPtr (H.a 6 rfl);clear H;go_simp,SP.fnL_upd (by decide)⟩) ?_
 refine .al rfl (#[.pointer none,.pointer none,.pointer none,.pointer none]) ?_
 refine Go2.storeOwn (i:=9) (m:=8) rfl rfl (.head _) (SP.cells 8 [2,6] (fun u=>#[(u 2).v,x5,x6,(u 6).v]) 147 (by intro u u' h;simp [h 2 (by simp),h 6 (by simp)])) (fun u μ ρ b H h0 hB hb=>?_) ?_
 · have e6:=H.r 6 8;have e20:=H.e 20 7 (by kernel_rfl) (H.a 7 rfl);have o2:=VP1.ptr (H.a 2 rfl);have o_x5:=VP1.ratn F_x5;have o_x6:=VP1.ratn F_x6;have o6:=VP1.ptr (H.a 6 rfl)
   rw [h0] at e6
   refine⟨μ.setRow b #[(u 2).v,x5,x6,(u 6).v],ex_store_row 147 _ _ rfl e6 e20 hb (by kernel_rfl) rfl (by simp [o2,o_x5,o_x6,o6]<;>rfl),fun g=>⟨b,?_,hB,?_⟩,setRow_only _ _ _⟩
   · rw [upd_other _ _ (by decide)];exact h0
   · rw [setRow_at hb];try simp [upd]
 refine .dk (fun u=>rciV r::sq u1 0 3 (u2 6::u2 8::u 8::u2 3::sq u2 0 3 (u2 4::u2 5::sq u 0 8 (us 20)))) K8 bel fun u3 w3 D bel=>?_
 obtain⟨x9,E3_2,F_x9⟩:∃ x_,(u3 2).v=x_∧(PtrP 0).p (Amb Z0 W) x_ w3:=⟨_,rfl,D.rr 2⟩
 obtain⟨x10,E3_6,F_x10⟩:∃ x_,(u3 6).v=x_∧(PtrP 0).p (Amb Z0 W) x_ w3:=⟨_,rfl,D.rr 6⟩
 obtain⟨b11,E3_8,A11,B11⟩:=(D.a 9 rfl)
 replace A11:=le2 D.le A11
 have N3_11:=D.n1 8 (lt_of B3) E3_8
 replace B3:=D.k B3
 simp only [Value.cells,E3_2,E3_6,E3_8] at B11
 replace F_x5:=D.gr (RatN ((gvm r.b).re)) F_x5
 replace F_x6:=D.gr (RatN ((gvm r.b).im)) F_x6
 clear D
 refine wp_seq_k fun _ K12=>?_
 refine gs 12 (Amb Z0 W) fun _ K13=>?_
 refine .mz rfl 5 E2_8 ?_
 refine .e rfl (V:=.bool true) (fun H=>x_not (H.g 21 0)) ?_
 refine .mv rfl 1 ?_
 refine .sk rfl 2 ?_
 refine .sk rfl 2 ?_
 refine .sk rfl 2 ?_
 refine .e rfl (fun H=>x_pkT (H.g 23 2) (H.c _)) ?_
 refine .mv rfl 6 ?_
 refine .sk rfl 7 ?_
 refine .sk rfl 7 ?_
 refine .sk rfl 7 ?_
 refine .e rfl (fun H=>x_pkT (H.g 28 7) (H.c _)) ?_
 refine .dk (fun u=>rciV r::sq u1 0 3 (u2 6::u2 8::u3 8::u2 3::sq u2 0 3 (u2 4::u2 5::sq u3 0 8 (sq u 0 12 (us 8))))) K13 bel fun u4 w4 D bel=>?_
 have E4_11:=D.q 11
 replace B3:=D.k B3
 replace B11:=D.k B11
 replace F_x5:=D.gr (RatN ((gvm r.b).re)) F_x5
 replace F_x6:=D.gr (RatN ((gvm r.b).im)) F_x6
 replace F_x9:=D.gr (PtrP 0) F_x9
 replace F_x10:=D.gr (PtrP 0) F_x10
 clear D
 refine wp_cond_true (by exact E4_11) ?_
 refine gs1 3 (Amb Z0 W) 1 B3 fun _ K14=>?_
 refine .e rfl (V:=.agg #[.pointer none,.pointer none,.pointer none,.pointer none]) (fun H=>by clear H;go_simp) ?_
 refine .s1 rfl B3 (fun H=>⟨H.z 2 E1_1,H.g 33 0⟩) ?_
 refine .mc rfl ?_
 refine .d1 (fun u=>rciV r::u1 0::u1 1::u 2::u2 6::u2 8::u3 8::u2 3::sq u2 0 3 (u2 4::u2 5::sq u3 0 8 (sq u4 0 12 (u 0::us 7)))) K14 bel A3 fun u5 w5 D bel=>?_
 have E5_2:=D.q 2
 replace B3:=D.ol 1
 clear D
 refine wp_ret ?_
 refine ret_ok rfl (by exact results_mix rfl (by exact E1_1) B3 Tryz.underlying147 rfl (by kernel_rfl) (by exact E5_2)) (RetV.mk ?_ bel)
 exact congrArg Ending.returned (rfl)
theorem ePlateB(r:RCi)(p0:gmay r.b=true)(p1:fmay r.a=false):Calls Tryz.prog 140 #[rciV r] W (RetV (.tuple #[.agg #[.pointer none,.pointer none,.pointer none,.pointer none],.bool false]) W):=by
 have bel:=b0 W
 go_enter Tryz.func140,Tryz.ntmps140
 refine gs 3 (Amb Z0 W) fun _ K1=>?_
 refine .bx rfl (fun H=>H.v 0 (rciV r)) ?_
 refine .al rfl (#[.pointer none,.pointer none,.pointer none,.pointer none]) ?_
 refine .mc rfl ?_
 refine .dk (fun u=>rciV r::sq u 0 3 (us 37)) K1 bel fun u1 w1 D bel=>?_
 obtain⟨b2,E1_0,A2,B2⟩:=D.nw 0
 obtain⟨b3,E1_1,A3,B3⟩:=D.nw 1
 have E1_2:=D.q 2
 have N2_3:=D.n2 0 1 E1_0 E1_1
 clear D
 refine gs 9 (Amb Z0 W) fun _ K4=>?_
 refine .fz rfl 1 4 E1_0 ?_
 refine .lp rfl 0 (rgC r.b) B2 ?_
 refine .cR rfl [] Tryz.func241 (fun H=>⟨_,ar1 (H.g 9 1),eOfR _⟩) ?_
 refine .mn rfl 2 [2] ?_
 refine Go2.fn (i:=4) rfl (G0 rfl) (.val 4 [2,3] (NumP (gvm r.b))) (fun u μ ρ H=>by have e7:=H.r 7 3;have h0:=(H.a 3 rfl);obtain⟨x0,x1,h1,h2⟩:=h0;rw [h1] at e7;exact⟨x0,by clear H;go_simp,SP.tupKeep (by decide) (by decide) h2.1⟩) ?_
 refine .e rfl (V:=.bool (gmay r.b)) (fun H=>by have e7:=H.r 7 3;have h0:=(H.a 3 rfl);obtain⟨x0,x1,h1,h2,h3⟩:=h0;rw [h1] at e7;have h3:x1=.bool (gmay r.b):=h3;subst h3;clear H;go_simp) ?_
 refine .al rfl (#[.pointer none,.pointer none]) ?_
 refine Go2.storeOwn (i:=7) (m:=6) rfl rfl (.head _) (SP.cells 6 [4] (fun u=>#[((u 4).v.cells.getD 0 undef),((u 4).v.cells.getD 1 undef)]) 145 (by intro u u' h;simp [h 4 (by simp)])) (fun u μ ρ b H h0 hB hb=>?_) ?_
 · have e4:=H.r 4 6;have e11:=H.r 11 4
   rw [h0] at e4
   obtain⟨x1,x2,h1,h2,h3⟩:=(H.a 4 rfl)
   have o1:=VP1.ratn h2
   have o2:=VP1.ratn h3
   rw [h1] at e11
   refine⟨μ.setRow b #[x1,x2],ex_store_row 145 _ _ rfl e4 e11 hb (by kernel_rfl) rfl (by simp [o1,o2]),fun g=>⟨b,?_,hB,?_⟩,setRow_only _ _ _⟩
   · rw [upd_other _ _ (by decide)];exact h0
   · rw [setRow_at hb];try simp [upd,h1,Value.cells]
 refine .e rfl (V:=.bool true) (fun H=>by have e12:=H.g 12 5;have k_:=p0;clear H;go_simp<;>first|(simp_all;done)|omega|exact len_gt z0_) ?_
 refine .dk (fun u=>rciV r::sq u1 0 3 (u 6::u 8::U::u 3::sq u 0 3 (u 4::u 5::us 28))) K4 bel fun u2 w2 D bel=>?_
 obtain⟨x5,x6,E2_4,F_x5,F_x6⟩:=(D.rr 4)
 obtain⟨b7,E2_6,A7,B7⟩:=(D.a 7 rfl)
 replace A7:=le2 D.le A7
 have E2_8:=D.q 8
 have N3_7:=D.n1 6 (lt_of B3) E2_6
 replace B2:=D.k B2
 replace B3:=D.k B3
 simp only [Value.cells,E2_4,E2_6] at B7
 replace B7:w2.heap[b7]? = some (.cells #[x5,x6] 145 (0,0)):=B7
 clear D
 refine gd 10 (Amb Z0 W) fun _ K8=>?_
 refine .fz rfl 1 0 E1_0 ?_
 refine .lp rfl 0 (rfC r.a) B2 ?_
 refine .cK rfl Tryz.func136 (fun H=>⟨_,ar1 (H.g 14 1),eRatF _ (by first|assumption|omega)⟩) ?_
 refine .lr rfl 4 E2_6 B7 ?_
 refine .fz rfl 1 12 E1_0 ?_
 refine .lp rfl 4 (rfC r.c) B2 ?_
 refine .cR rfl [] Tryz.func136 (fun H=>⟨_,ar1 (H.g 18 5),eRatA _⟩) ?_
 refine Go2.fn (i:=7) rfl (G0 rfl) (SP.fnL 7 [6] (fun u=>.agg #[.pointer none,x5,x6,(u 6).v]) (by intro u u' h;simp [h 6 (by simp)])) (fun u μ ρ H=>⟨_,by have e15:=H.g 15 2;have e16:=H.g 16 3;have e19:=H.r 19 6;obtain⟨x6,h6⟩:=PtrP.isPtr (H.a 6 rfl);clear H;go_simp,SP.fnL_upd (by decide)⟩) ?_
 refine .al rfl (#[.pointer none,.pointer none,.pointer none,.pointer none]) ?_
 refine Go2.storeOwn (i:=9) (m:=8) rfl rfl (.head _) (SP.cells 8 [6] (fun u=>#[.pointer none,x5,x6,(u 6).v]) 147 (by intro u u' h;simp [h 6 (by simp)])) (fun u μ ρ b H h0 hB hb=>?_) ?_
 · have e6:=H.r 6 8;have e20:=H.e 20 7 (by kernel_rfl) (H.a 7 rfl);have o_x5:=VP1.ratn F_x5;have o_x6:=VP1.ratn F_x6;have o6:=VP1.ptr (H.a 6 rfl)
   rw [h0] at e6
   refine⟨μ.setRow b #[.pointer none,x5,x6,(u 6).v],ex_store_row 147 _ _ rfl e6 e20 hb (by kernel_rfl) rfl (by simp [o_x5,o_x6,o6]<;>rfl),fun g=>⟨b,?_,hB,?_⟩,setRow_only _ _ _⟩
   · rw [upd_other _ _ (by decide)];exact h0
   · rw [setRow_at hb];try simp [upd]
 refine .dk (fun u=>rciV r::sq u1 0 3 (u2 6::u2 8::u 8::u2 3::sq u2 0 3 (u2 4::u2 5::sq u 0 8 (us 20)))) K8 bel fun u3 w3 D bel=>?_
 obtain⟨x9,E3_6,F_x9⟩:∃ x_,(u3 6).v=x_∧(PtrP 0).p (Amb Z0 W) x_ w3:=⟨_,rfl,D.rr 6⟩
 obtain⟨b10,E3_8,A10,B10⟩:=(D.a 9 rfl)
 replace A10:=le2 D.le A10
 have N3_10:=D.n1 8 (lt_of B3) E3_8
 replace B3:=D.k B3
 simp only [Value.cells,E3_6,E3_8] at B10
 replace F_x5:=D.gr (RatN ((gvm r.b).re)) F_x5
 replace F_x6:=D.gr (RatN ((gvm r.b).im)) F_x6
 clear D
 refine wp_seq_k fun _ K11=>?_
 refine gs 12 (Amb Z0 W) fun _ K12=>?_
 refine .mz rfl 5 E2_8 ?_
 refine .e rfl (V:=.bool false) (fun H=>x_not (H.g 21 0)) ?_
 refine .mv rfl 1 ?_
 refine .fz rfl 6 0 E3_8 ?_ (hg:=gq 2 rfl)
 refine .lc rfl 3 B10 ?_ (V:=.pointer none) (hg:=gq 2 rfl)
 refine .e rfl (V:=.bool true) (fun H=>x_nnE (H.g 25 4) (H.c _)) ?_ (hg:=gq 2 rfl)
 refine .e rfl (fun H=>x_pkF (H.g 23 2) (H.g 26 5)) ?_
 refine .mv rfl 6 ?_
 refine .sk rfl 7 ?_
 refine .sk rfl 7 ?_
 refine .sk rfl 7 ?_
 refine .e rfl (fun H=>x_pkT (H.g 28 7) (H.c _)) ?_
 refine .dk (fun u=>rciV r::sq u1 0 3 (u2 6::u2 8::u3 8::u2 3::sq u2 0 3 (u2 4::u2 5::sq u3 0 8 (sq u 0 12 (us 8))))) K12 bel fun u4 w4 D bel=>?_
 have E4_11:=D.q 11
 replace B3:=D.k B3
 replace B10:=D.k B10
 replace F_x5:=D.gr (RatN ((gvm r.b).re)) F_x5
 replace F_x6:=D.gr (RatN ((gvm r.b).im)) F_x6
 replace F_x9:=D.gr (PtrP 0) F_x9
 clear D
 refine wp_cond_true (by exact E4_11) ?_
 refine gs1 3 (Amb Z0 W) 1 B3 fun _ K13=>?_
 refine .e rfl (V:=.agg #[.pointer none,.pointer none,.pointer none,.pointer none]) (fun H=>by clear H;go_simp) ?_
 refine .s1 rfl B3 (fun H=>⟨H.z 2 E1_1,H.g 33 0⟩) ?_
 refine .mc rfl ?_
 refine .d1 (fun u=>rciV r::u1 0::u1 1::u 2::u2 6::u2 8::u3 8::u2 3::sq u2 0 3 (u2 4::u2 5::sq u3 0 8 (sq u4 0 12 (u 0::us 7)))) K13 bel A3 fun u5 w5 D bel=>?_
 have E5_2:=D.q 2
 replace B3:=D.ol 1
 clear D
 refine wp_ret ?_
 refine ret_ok rfl (by exact results_mix rfl (by exact E1_1) B3 Tryz.underlying147 rfl (by kernel_rfl) (by exact E5_2)) (RetV.mk ?_ bel)
 exact congrArg Ending.returned (rfl)
theorem ePlateC(r:RCi)(p0:gmay r.b=true)(p1:fmay r.a=true)(p2:fmay r.c=false):Calls Tryz.prog 140 #[rciV r] W (RetV (.tuple #[.agg #[.pointer none,.pointer none,.pointer none,.pointer none],.bool false]) W):=by
 have bel:=b0 W
 go_enter Tryz.func140,Tryz.ntmps140
 refine gs 3 (Amb Z0 W) fun _ K1=>?_
 refine .bx rfl (fun H=>H.v 0 (rciV r)) ?_
 refine .al rfl (#[.pointer none,.pointer none,.pointer none,.pointer none]) ?_
 refine .mc rfl ?_
 refine .dk (fun u=>rciV r::sq u 0 3 (us 37)) K1 bel fun u1 w1 D bel=>?_
 obtain⟨b2,E1_0,A2,B2⟩:=D.nw 0
 obtain⟨b3,E1_1,A3,B3⟩:=D.nw 1
 have E1_2:=D.q 2
 have N2_3:=D.n2 0 1 E1_0 E1_1
 clear D
 refine gs 9 (Amb Z0 W) fun _ K4=>?_
 refine .fz rfl 1 4 E1_0 ?_
 refine .lp rfl 0 (rgC r.b) B2 ?_
 refine .cR rfl [] Tryz.func241 (fun H=>⟨_,ar1 (H.g 9 1),eOfR _⟩) ?_
 refine .mn rfl 2 [2] ?_
 refine Go2.fn (i:=4) rfl (G0 rfl) (.val 4 [2,3] (NumP (gvm r.b))) (fun u μ ρ H=>by have e7:=H.r 7 3;have h0:=(H.a 3 rfl);obtain⟨x0,x1,h1,h2⟩:=h0;rw [h1] at e7;exact⟨x0,by clear H;go_simp,SP.tupKeep (by decide) (by decide) h2.1⟩) ?_
 refine .e rfl (V:=.bool (gmay r.b)) (fun H=>by have e7:=H.r 7 3;have h0:=(H.a 3 rfl);obtain⟨x0,x1,h1,h2,h3⟩:=h0;rw [h1] at e7;have h3:x1=.bool (gmay r.b):=h3;subst h3;clear H;go_simp) ?_
 refine .al rfl (#[.pointer none,.pointer none]) ?_
 refine Go2.storeOwn (i:=7) (m:=6) rfl rfl (.head _) (SP.cells 6 [4] (fun u=>#[((u 4).v.cells.getD 0 undef),((u 4).v.cells.getD 1 undef)]) 145 (by intro u u' h;simp [h 4 (by simp)])) (fun u μ ρ b H h0 hB hb=>?_) ?_
 · have e4:=H.r 4 6;have e11:=H.r 11 4
   rw [h0] at e4
   obtain⟨x1,x2,h1,h2,h3⟩:=(H.a 4 rfl)
   have o1:=VP1.ratn h2
   have o2:=VP1.ratn h3
   rw [h1] at e11
   refine⟨μ.setRow b #[x1,x2],ex_store_row 145 _ _ rfl e4 e11 hb (by kernel_rfl) rfl (by simp [o1,o2]),fun g=>⟨b,?_,hB,?_⟩,setRow_only _ _ _⟩
   · rw [upd_other _ _ (by decide)];exact h0
   · rw [setRow_at hb];try simp [upd,h1,Value.cells]
 refine .e rfl (V:=.bool true) (fun H=>by have e12:=H.g 12 5;have k_:=p0;clear H;go_simp<;>first|(simp_all;done)|omega|exact len_gt z0_) ?_
 refine .dk (fun u=>rciV r::sq u1 0 3 (u 6::u 8::U::u 3::sq u 0 3 (u 4::u 5::us 28))) K4 bel fun u2 w2 D bel=>?_
 obtain⟨x5,x6,E2_4,F_x5,F_x6⟩:=(D.rr 4)
 obtain⟨b7,E2_6,A7,B7⟩:=(D.a 7 rfl)
 replace A7:=le2 D.le A7
 have E2_8:=D.q 8
 have N3_7:=D.n1 6 (lt_of B3) E2_6
 replace B2:=D.k B2
 replace B3:=D.k B3
 simp only [Value.cells,E2_4,E2_6] at B7
 replace B7:w2.heap[b7]? = some (.cells #[x5,x6] 145 (0,0)):=B7
 clear D
 refine gd 10 (Amb Z0 W) fun _ K8=>?_
 refine .fz rfl 1 0 E1_0 ?_
 refine .lp rfl 0 (rfC r.a) B2 ?_
 refine .cR rfl [] Tryz.func136 (fun H=>⟨_,ar1 (H.g 14 1),eRatT _ (by first|assumption|omega)⟩) ?_
 refine .lr rfl 4 E2_6 B7 ?_
 refine .fz rfl 1 12 E1_0 ?_
 refine .lp rfl 4 (rfC r.c) B2 ?_
 refine .cK rfl Tryz.func136 (fun H=>⟨_,ar1 (H.g 18 5),eRatF _ (by first|assumption|omega)⟩) ?_
 refine Go2.fn (i:=7) rfl (G0 rfl) (SP.fnL 7 [2] (fun u=>.agg #[(u 2).v,x5,x6,.pointer none]) (by intro u u' h;simp [h 2 (by simp)])) (fun u μ ρ H=>⟨_,by have e15:=H.r 15 2;have e16:=H.g 16 3;have e19:=H.g 19 6;obtain⟨x2,h2⟩:=RatP.isPtr (H.a 2 rfl);clear H;go_simp,SP.fnL_upd (by decide)⟩) ?_
 refine .al rfl (#[.pointer none,.pointer none,.pointer none,.pointer none]) ?_
 refine Go2.storeOwn (i:=9) (m:=8) rfl rfl (.head _) (SP.cells 8 [2] (fun u=>#[(u 2).v,x5,x6,.pointer none]) 147 (by intro u u' h;simp [h 2 (by simp)])) (fun u μ ρ b H h0 hB hb=>?_) ?_
 · have e6:=H.r 6 8;have e20:=H.e 20 7 (by kernel_rfl) (H.a 7 rfl);have o2:=VP1.rat (H.a 2 rfl);have o_x5:=VP1.ratn F_x5;have o_x6:=VP1.ratn F_x6
   rw [h0] at e6
   refine⟨μ.setRow b #[(u 2).v,x5,x6,.pointer none],ex_store_row 147 _ _ rfl e6 e20 hb (by kernel_rfl) rfl (by simp [o2,o_x5,o_x6]<;>rfl),fun g=>⟨b,?_,hB,?_⟩,setRow_only _ _ _⟩
   · rw [upd_other _ _ (by decide)];exact h0
   · rw [setRow_at hb];try simp [upd]
 refine .dk (fun u=>rciV r::sq u1 0 3 (u2 6::u2 8::u 8::u2 3::sq u2 0 3 (u2 4::u2 5::sq u 0 8 (us 20)))) K8 bel fun u3 w3 D bel=>?_
 obtain⟨b9,E3_2,L9,F9⟩:=RatP.elim (D.rr 2)
 obtain⟨b10,E3_8,A10,B10⟩:=(D.a 9 rfl)
 replace A10:=le2 D.le A10
 have N3_10:=D.n1 8 (lt_of B3) E3_8
 replace B3:=D.k B3
 simp only [Value.cells,E3_2,E3_8] at B10
 replace F_x5:=D.gr (RatN ((gvm r.b).re)) F_x5
 replace F_x6:=D.gr (RatN ((gvm r.b).im)) F_x6
 clear D
 refine wp_seq_k fun _ K11=>?_
 refine gs 12 (Amb Z0 W) fun _ K12=>?_
 refine .mz rfl 5 E2_8 ?_
 refine .e rfl (V:=.bool false) (fun H=>x_not (H.g 21 0)) ?_
 refine .mv rfl 1 ?_
 refine .fz rfl 6 0 E3_8 ?_ (hg:=gq 2 rfl)
 refine .lc rfl 3 B10 ?_ (V:=pt b9) (hg:=gq 2 rfl)
 refine .e rfl (V:=.bool false) (fun H=>x_pnE (H.g 25 4) (H.c _)) ?_ (hg:=gq 2 rfl)
 refine .e rfl (fun H=>x_pkF (H.g 23 2) (H.g 26 5)) ?_
 refine .mv rfl 6 ?_
 refine .fz rfl 6 3 E3_8 ?_ (hg:=gq 7 rfl)
 refine .lc rfl 8 B10 ?_ (V:=.pointer none) (hg:=gq 7 rfl)
 refine .e rfl (V:=.bool true) (fun H=>x_nnE (H.g 30 9) (H.c _)) ?_ (hg:=gq 7 rfl)
 refine .e rfl (fun H=>x_pkF (H.g 28 7) (H.g 31 10)) ?_
 refine .dk (fun u=>rciV r::sq u1 0 3 (u2 6::u2 8::u3 8::u2 3::sq u2 0 3 (u2 4::u2 5::sq u3 0 8 (sq u 0 12 (us 8))))) K12 bel fun u4 w4 D bel=>?_
 have E4_11:=D.q 11
 replace B3:=D.k B3
 replace B10:=D.k B10
 replace F9:=D.o L9 F9
 replace F_x5:=D.gr (RatN ((gvm r.b).re)) F_x5
 replace F_x6:=D.gr (RatN ((gvm r.b).im)) F_x6
 clear D
 refine wp_cond_true (by exact E4_11) ?_
 refine gs1 3 (Amb Z0 W) 1 B3 fun _ K13=>?_
 refine .e rfl (V:=.agg #[.pointer none,.pointer none,.pointer none,.pointer none]) (fun H=>by clear H;go_simp) ?_
 refine .s1 rfl B3 (fun H=>⟨H.z 2 E1_1,H.g 33 0⟩) ?_
 refine .mc rfl ?_
 refine .d1 (fun u=>rciV r::u1 0::u1 1::u 2::u2 6::u2 8::u3 8::u2 3::sq u2 0 3 (u2 4::u2 5::sq u3 0 8 (sq u4 0 12 (u 0::us 7)))) K13 bel A3 fun u5 w5 D bel=>?_
 have E5_2:=D.q 2
 replace B3:=D.ol 1
 clear D
 refine wp_ret ?_
 refine ret_ok rfl (by exact results_mix rfl (by exact E1_1) B3 Tryz.underlying147 rfl (by kernel_rfl) (by exact E5_2)) (RetV.mk ?_ bel)
 exact congrArg Ending.returned (rfl)
end Go.Proofs.YtcdbmjnipaochaaGreat
namespace Go.Proofs.YtcdbmjnipaochaaGreat
open Go.RowKit Rgn Eng
variable {S:Nat→Prop} {W:World}
theorem ePlateY(c:Ci)(p0:cifits (rci c)=true):Calls Tryz.prog 140 #[ciV c] W (Ret (VP.tup (RingP c) (VP.is (.bool (decide (c.dot c=-1))))) S W):=by
 have f:=cifits_ht p0
 have h1:=dot_ht c c
 have z2:ht (Rat.divInt (-1:Int) (1:Int))=2:=by decide
 refine Run.goP (S:=S) (Pack.nil.k (ciV c) (ciC c).toList (.s (.agg (ks 0 16)))) Tryz.func140 rfl ?_
 refine Run.cR (spNumC true) (fun _ _ _ H=>eOf c.b (by first|omega|exact (and_3 p0).1|exact (and_3 p0).2.1|exact (and_3 p0).2.2|exact pos_flat p1)) ?_
 refine Run.dr ?_
 refine RunD.cR spRat (fun _ _ _ H=>eRatOk c.a (by first|omega|exact (and_3 p0).1|exact (and_3 p0).2.1|exact (and_3 p0).2.2|exact pos_flat p1)) ?_
 refine RunD.cR spRat (fun _ _ _ H=>eRatOk c.c (by first|omega|exact (and_3 p0).1|exact (and_3 p0).2.1|exact (and_3 p0).2.2|exact pos_flat p1)) ?_
 refine RunD.en ?_
 refine Run.np 2 (c.a) 143 .eql false (.inl ⟨rfl,rfl⟩) (fun c w=>by kernel_rfl) ?_
 refine Run.np 3 (c.c) 143 .eql false (.inl ⟨rfl,rfl⟩) (fun c w=>by kernel_rfl) ?_
 refine Run.dr ?_
 refine RunD.cR spRat (fun _ _ _ H=>dsBy c c (RingP.mk (H.f 2) (H.f 0) (H.f 1) (H.f 3)) (RingP.mk (H.f 2) (H.f 0) (H.f 1) (H.f 3)) (by first|omega|exact (and_3 p0).1|exact (and_3 p0).2.1|exact (and_3 p0).2.2|exact pos_flat p1)) ?_
 refine RunD.cR spRat (fun _ _ _ H=>qNewRat (-1) 1 (by decide) (by decide) (by decide) (by decide) (by decide)) ?_
 refine RunD.cV [.int .i64 (icmp ((c.dot c).num*((Rat.divInt (-1) 1).den:Int)) ((Rat.divInt (-1) 1).num*((c.dot c).den:Int)))] kb (fun _ _ _ H=>qCmp (c.dot c) (Rat.divInt (-1) 1) (H.f 4) (H.f 5) (by first|omega|exact (and_3 p0).1|exact (and_3 p0).2.1|exact (and_3 p0).2.2|exact pos_flat p1)) ?_
 refine RunD.bi [.bool ((icmp ((c.dot c).num*((Rat.divInt (-1) 1).den:Int)) ((Rat.divInt (-1) 1).num*((c.dot c).den:Int))) == 0)] kb (fun _ _ _ o1 o2 _ ho hx hy=>ex_icmp .eql 3 (icmp ((c.dot c).num*((Rat.divInt (-1) 1).den:Int)) ((Rat.divInt (-1) 1).num*((c.dot c).den:Int))) 0 (kk:=.i64) rfl ho hx hy) ?_
 refine RunD.en ?_
 exact Run.rR (fun _ _ _ H=>⟨_,_,rfl,(RingP.mk (H.f 2) (H.f 0) (H.f 1) (H.f 3)),plate_eq c⟩)
end Go.Proofs.YtcdbmjnipaochaaGreat
namespace Go.Proofs.YtcdbmjnipaochaaGreat
open Go.RowKit Rgn
theorem tupJ{φ:VP}{S:Nat→Prop}{w:World}{v:Value}(h:φ.p S v w):(VP.tup φ (VP.is (.bool false))).p S (.tuple #[v,.bool false]) w:=⟨_,_,rfl,h,rfl⟩
theorem ringJ0{S:Nat→Prop}{w:World}:(RingJ 0).p S (.agg #[.pointer none,.pointer none,.pointer none,.pointer none]) w:=⟨_,_,_,_,rfl,⟨_,rfl⟩,⟨_,rfl⟩,⟨_,rfl⟩,⟨_,rfl⟩⟩
theorem toJ{P:Program}{f:FuncId}{args:Array Value}{W:World}{φ ψ:VP}{b:Bool}{S:Nat→Prop}(h:Calls P f args W (Ret (VP.tup φ (VP.is (.bool b))) S W))(hb:b=false)(hj:∀ v w (S:Nat→Prop),φ.p S v w→ψ.p S v w):Calls P f args W (Ret (VP.tup ψ (VP.is (.bool false))) S W):=by
 subst hb
 exact h.mono fun _ _ ⟨v,h1,⟨a,b,h2,h3,h4⟩,h5⟩=>⟨v,h1,⟨a,b,h2,hj _ _ _ h3,h4⟩,h5⟩
theorem ePlateO{S:Nat→Prop}{W:World}(c:Ci)(p0:dsOk (rci c)=true):Calls Tryz.prog 140 #[ciV c] W (Ret (VP.tup (RingP c) (VP.is (.bool true))) S W):=by
 obtain⟨h1,h2⟩:=dsOk_c p0
 have h:=ePlateY (S:=S) (W:=W) c h1
 rw [decide_eq_true h2] at h
 exact h
theorem ePlateN{S:Nat→Prop}{W:World}(r:RCi)(p0:dsOk r=false):Calls Tryz.prog 140 #[rciV r] W (Ret (VP.tup (RingJ 0) (VP.is (.bool false))) S W):=by
 cases h1:gmay r.b with
 | false=>exact retOf (ePlateA r h1) fun _=>tupJ ringJ0
 | true =>
  cases h2:fmay r.a with
  | false=>exact retOf (ePlateB r h1 h2) fun _=>tupJ ringJ0
  | true =>
   cases h3:fmay r.c with
   | false=>exact retOf (ePlateC r h1 h2 h3) fun _=>tupJ ringJ0
   | true =>
    obtain⟨c,rfl,hf⟩:=ci_of h2 h1 h3
    refine toJ (ePlateY c hf) (decide_eq_false fun e=>?_) fun _ _ _ h=>RingP.j h
    exact dsOk_no p0 ⟨c,rfl,hf,e⟩
end Go.Proofs.YtcdbmjnipaochaaGreat
namespace Go.Proofs.YtcdbmjnipaochaaGreat
open Go.RowKit Rgn
@[reducible] def Cx.inv(k:Cx):Cx:=k.conj.scale k.norm⁻¹
theorem inv_one{k:Cx}(h:k.zero=false):k.inv.mul k=⟨1,0⟩:=by
 have hn:k.norm≠0:=zero_norm h
 have e:(k.re*k.re+k.im*k.im)*k.norm⁻¹=1:=Rat.mul_inv_cancel _ hn
 exact Cx.ext' (by show k.re*k.norm⁻¹*k.re - -k.im*k.norm⁻¹*k.im=1;grind) (by show k.re*k.norm⁻¹*k.im+-k.im*k.norm⁻¹*k.re=0;grind)
theorem inv_zero{k:Cx}(h:k.zero=false):k.inv.zero=false:=by
 cases e:k.inv.zero with
 | false=>rfl
 | true =>
  have h1:=inv_one h
  rw [zero_iff.1 e] at h1
  have h2:(0:Rat)*k.re-0*k.im=1:=congrArg Cx.re h1
  grind
@[reducible] def Mb.by(m:Mb)(j:Cx):Mb:=⟨m.a.mul j,m.b.mul j,m.c.mul j,m.d.mul j,m.t⟩
def Ci.at(c:Ci)(v w:Cx):Rat:=c.a*v.norm+c.c*w.norm+(((c.b.mul v).mul w.conj).re+((c.b.mul v).mul w.conj).re)
def Ci.mid(c:Ci)(n:Mb):Cx:=((((Cx.mk c.a 0).mul (n.a.mul n.b.conj)).add ((c.b.mul n.a).mul n.d.conj)).add ((c.b.mul n.b).conj.mul n.c)).add ((Cx.mk c.c 0).mul (n.c.mul n.d.conj))
def Ci.im(c:Ci)(n:Mb)(t:Bool):Ci:=⟨c.at n.a n.c,cjC t (c.mid n),c.at n.b n.d⟩
theorem sq_nn(x:Rat):0≤x*x:=by
 rcases Rat.le_total (a:=0) (b:=x) with g|g
 ·exact Rat.mul_nonneg g g
 ·have g' : 0≤-x:=by grind
  have:=Rat.mul_nonneg g' g'
  grind
def HB(z:Cx)(n:Nat):Prop:=ht z.re≤n∧ht z.im≤n
section
variable {x y z:Cx} {p q:Rat} {a b n:Nat}
theorem HB.two(h1:ht z.re≤a)(h2:ht z.im≤b)(n:Nat)(h:(Nat.ble a n&&Nat.ble b n)=true:=by decide):HB z n:=by
 simp only [Bool.and_eq_true,Nat.ble_eq] at h
 exact⟨Nat.le_trans h1 h.1,Nat.le_trans h2 h.2⟩
theorem HB.mul(h1:HB x a)(h2:HB y b)(n:Nat)(h:2*a+2*b≤n:=by decide):HB (x.mul y) n:=by
 have:=hc_mul x y
 unfold HB at *;omega
theorem HB.add(h1:HB x a)(h2:HB y b)(n:Nat)(h:a+b≤n:=by decide):HB (x.add y) n:=by
 have:=hc_add x y
 unfold HB at *;omega
theorem HB.sub(h1:HB x a)(h2:HB y b)(n:Nat)(h:a+b≤n:=by decide):HB (x.sub y) n:=by
 have:=hc_sub x y
 unfold HB at *;omega
theorem HB.div(h1:HB x a)(h2:HB y b)(n:Nat)(h:6*a+6*b≤n:=by decide):HB (x.div y) n:=by
 have:=hc_div x y
 unfold HB at *;omega
theorem HB.neg(h1:HB x a):HB x.neg a:=by have:=hc_neg x;unfold HB at *;omega
theorem HB.conj(h1:HB x a):HB x.conj a:=by have:=hc_conj x;unfold HB at *;omega
theorem HB.scale(h1:HB x a)(h2:ht p≤b)(n:Nat)(h:a+b≤n:=by decide):HB (x.scale p) n:=by
 have:=hc_scale x p
 unfold HB at *;omega
theorem HB.norm(h1:HB x a)(n:Nat)(h:4*a≤n:=by decide):ht x.norm≤n:=by
 have:=hc_norm x
 unfold HB at *;omega
theorem hb_add(h1:ht p≤a)(h2:ht q≤b)(n:Nat)(h:a+b≤n:=by decide):ht (p+q)≤n:=Nat.le_trans (ht_add p q) (Nat.le_trans (Nat.add_le_add h1 h2) h)
theorem hb_sub(h1:ht p≤a)(h2:ht q≤b)(n:Nat)(h:a+b≤n:=by decide):ht (p-q)≤n:=Nat.le_trans (ht_sub p q) (Nat.le_trans (Nat.add_le_add h1 h2) h)
theorem hb_mul(h1:ht p≤a)(h2:ht q≤b)(n:Nat)(h:a+b≤n:=by decide):ht (p*q)≤n:=Nat.le_trans (ht_mul p q) (Nat.le_trans (Nat.add_le_add h1 h2) h)
theorem hb_neg(h1:ht p≤a):ht (-p)≤a:=by rw [ht_neg];exact h1
theorem hb_ci{c:Ci}(h:ht c.a+ht c.b.re+ht c.b.im+ht c.c≤n):ht c.a≤n∧HB c.b n∧ht c.c≤n:=by unfold HB;omega
end
end Go.Proofs.YtcdbmjnipaochaaGreat
namespace Go.Proofs.YtcdbmjnipaochaaGreat
open Go.RowKit Rgn Eng
def idxF:List Bool→Int→Int
 | [],_=>-1
 | b::l,k=>if b then idxF l (k+1) else k
theorem idxF_all(l:List Bool):decide ((0:Int)≤idxF l 0) = !(l.all id):=by
 have key:∀ (l:List Bool) (k:Int),0≤k→decide ((0:Int)≤idxF l k) = !(l.all id):=by
  intro l
  induction l with
  | nil=>intro k _;rfl
  | cons b l ih =>
   intro k hk
   cases b with
   | true=>exact ih (k+1) (by omega)
   | false=>show decide ((0:Int)≤k)=true;exact decide_eq_true hk
 exact key l 0 (Int.le_refl _)
def mn3(xa xb xc ya yb yc za zb zc:Rat):Rat:=(0+(yb*zc-yc*zb)*xa)+(yc*za-ya*zc)*xb+(ya*zb-yb*za)*xc
theorem mn3_hb{xa xb xc ya yb yc za zb zc:Rat}(h1:ht xa≤40000)(h2:ht xb≤40000)(h3:ht xc≤40000)(h4:ht ya≤40000)(h5:ht yb≤40000)(h6:ht yc≤40000)(h7:ht za≤40000)(h8:ht zb≤40000)(h9:ht zc≤40000):ht (mn3 xa xb xc ya yb yc za zb zc)≤600002 :=
 hb_add (hb_add (hb_add (Nat.le_of_eq ht_zero) (hb_mul (hb_sub (hb_mul h5 h9 80000) (hb_mul h6 h8 80000) 160000) h1 200000) 200002) (hb_mul (hb_sub (hb_mul h6 h7 80000) (hb_mul h4 h9 80000) 160000) h2 200000) 400002) (hb_mul (hb_sub (hb_mul h4 h8 80000) (hb_mul h5 h7 80000) 160000) h3 200000) 600002
def Ci.acr(x y z:Ci):Ci :=
 ⟨-(mn3 x.a x.b.re x.b.im y.a y.b.re y.b.im z.a z.b.re z.b.im),((⟨mn3 x.a x.c x.b.im y.a y.c y.b.im z.a z.c z.b.im,0⟩:Cx).add ((⟨-(mn3 x.a x.c x.b.re y.a y.c y.b.re z.a z.c z.b.re),0⟩:Cx).mul (Cx.ofInt 0 1))).scale (Rat.divInt (-1) 2),mn3 x.c x.b.re x.b.im y.c y.b.re y.b.im z.c z.b.re z.b.im⟩
theorem acr_ht{x y z:Ci}(h1:ht x.a+ht x.b.re+ht x.b.im+ht x.c≤40000)(h2:ht y.a+ht y.b.re+ht y.b.im+ht y.c≤40000)(h3:ht z.a+ht z.b.re+ht z.b.im+ht z.c≤40000):ht (Ci.acr x y z).a+ht (Ci.acr x y z).b.re+ht (Ci.acr x y z).b.im+ht (Ci.acr x y z).c≤4800036:=by
 obtain⟨a1,b1,c1⟩:=hb_ci h1
 obtain⟨a2,b2,c2⟩:=hb_ci h2
 obtain⟨a3,b3,c3⟩:=hb_ci h3
 have k0:=mn3_hb a1 c1 b1.2 a2 c2 b2.2 a3 c3 b3.2
 have k1:=hb_neg (mn3_hb a1 c1 b1.1 a2 c2 b2.1 a3 c3 b3.1)
 have k2:=HB.mul (HB.two (z:=Cx.mk (-(mn3 x.a x.c x.b.re y.a y.c y.b.re z.a z.c z.b.re)) 0) k1 (Nat.le_of_eq ht_zero) 600002) (⟨by decide,by decide⟩:HB (Cx.ofInt 0 1) 3) 1200010
 have k3:=HB.add (HB.two (z:=Cx.mk (mn3 x.a x.c x.b.im y.a y.c y.b.im z.a z.c z.b.im) 0) k0 (Nat.le_of_eq ht_zero) 600002) k2 1800012
 have k4:=hb_neg (mn3_hb a1 b1.1 b1.2 a2 b2.1 b2.2 a3 b3.1 b3.2)
 have k5:=HB.scale k3 (by decide:ht (Rat.divInt (-1) 2)≤4) 1800016
 have k6:=mn3_hb c1 b1.1 b1.2 c2 b2.1 b2.2 c3 b3.1 b3.2
 exact Nat.le_trans (Nat.add_le_add (Nat.add_le_add (Nat.add_le_add k4 k5.1) k5.2) k6) (by decide)
theorem plus_ht(x y:Ci):ht (x.plus y).a+ht (x.plus y).b.re+ht (x.plus y).b.im+ht (x.plus y).c≤(ht x.a+ht x.b.re+ht x.b.im+ht x.c)+(ht y.a+ht y.b.re+ht y.b.im+ht y.c):=by
 have h1:ht (x.plus y).a≤ht x.a+ht y.a:=ht_add x.a y.a
 have h2:ht (x.plus y).b.re≤ht x.b.re+ht y.b.re:=ht_add x.b.re y.b.re
 have h3:ht (x.plus y).b.im≤ht x.b.im+ht y.b.im:=ht_add x.b.im y.b.im
 have h4:ht (x.plus y).c≤ht x.c+ht y.c:=ht_add x.c y.c
 omega
theorem out_hs(x:Ci):ht x.out.a+ht x.out.b.re+ht x.out.b.im+ht x.out.c=ht x.a+ht x.b.re+ht x.b.im+ht x.c:=by
 obtain⟨h1,h2,h3,h4⟩:=out_ht x;omega
def fstN:List Int→Bool
 | []=>false
 | n::l=>if (n != 0)=true then decide (n<0) else fstN l
def Ci.ahd(a b:Ci):Bool:=fstN [-(icmp (a.a.num*(b.a.den:Int)) (b.a.num*(a.a.den:Int))),(a.b.sub b.b).re.num.sign,(a.b.sub b.b).im.num.sign,icmp (a.c.num*(b.c.den:Int)) (b.c.num*(a.c.den:Int))]
def Ci.f4s(a b c:Ci):Ci:=(a.plus b).plus c
def Ci.f4x(a b c:Ci):Ci:=(Ci.f4s a b c).plus (Ci.acr a b c)
def Ci.f4y(a b c:Ci):Ci:=(Ci.f4s a b c).plus (Ci.acr a b c).out
def Ci.f4p(a b c:Ci):Ci:=if (Ci.f4y a b c).ahd (Ci.f4x a b c)=true then Ci.f4y a b c else Ci.f4x a b c
def Ci.f4q(a b c:Ci):Ci:=if (Ci.f4y a b c).ahd (Ci.f4x a b c)=true then Ci.f4x a b c else Ci.f4y a b c
def Ci.f4b(a b c:Ci):Bool:=(cierr (Ci.f4p a b c) != 0)||(cierr (Ci.f4q a b c) != 0)
def Ci.f4P(a b c:Ci):RCi:=if Ci.f4b a b c=true then rzCi else cicut (Ci.f4p a b c)
def Ci.f4Q(a b c:Ci):RCi:=if Ci.f4b a b c=true then rzCi else cicut (Ci.f4q a b c)
def Ci.f4E(a b c:Ci):Int:=if Ci.f4b a b c=true then 4 else 0
def Ci.all3(a b c:Ci):Bool:=[b.touch a].all id&&[c.touch a,c.touch b].all id
theorem f4_ht{x y z:Ci}(h1:ht x.a+ht x.b.re+ht x.b.im+ht x.c≤40000)(h2:ht y.a+ht y.b.re+ht y.b.im+ht y.c≤40000)(h3:ht z.a+ht z.b.re+ht z.b.im+ht z.c≤40000):ht (Ci.f4s x y z).a+ht (Ci.f4s x y z).b.re+ht (Ci.f4s x y z).b.im+ht (Ci.f4s x y z).c≤120000∧ht (Ci.f4x x y z).a+ht (Ci.f4x x y z).b.re+ht (Ci.f4x x y z).b.im+ht (Ci.f4x x y z).c≤5000000∧ht (Ci.f4y x y z).a+ht (Ci.f4y x y z).b.re+ht (Ci.f4y x y z).b.im+ht (Ci.f4y x y z).c≤5000000:=by
 have g:=acr_ht h1 h2 h3
 have k1:=plus_ht x y
 have k2:=plus_ht (x.plus y) z
 have k3:=plus_ht (Ci.f4s x y z) (Ci.acr x y z)
 have k4:=plus_ht (Ci.f4s x y z) (Ci.acr x y z).out
 have k5:=out_hs (Ci.acr x y z)
 unfold Ci.f4x Ci.f4y
 refine⟨?_,?_,?_⟩<;>(unfold Ci.f4s at *;omega)
section
variable {a b c:Ci}
theorem fo_e(e:Ci.f4b a b c=true):Value.tuple #[rciV rzCi,rciV rzCi,.int .i64 4]=.tuple #[rciV (Ci.f4P a b c),rciV (Ci.f4Q a b c),.int .i64 (Ci.f4E a b c)]:=by
 unfold Ci.f4P Ci.f4Q Ci.f4E;rw [if_pos e,if_pos e,if_pos e]
theorem fo_1(h:(Ci.f4y a b c).ahd (Ci.f4x a b c)=true)(e:(cierr (Ci.f4y a b c) != 0)=true):Value.tuple #[rciV rzCi,rciV rzCi,.int .i64 4]=.tuple #[rciV (Ci.f4P a b c),rciV (Ci.f4Q a b c),.int .i64 (Ci.f4E a b c)] :=
 fo_e (by unfold Ci.f4b Ci.f4p;rw [if_pos h,e];rfl)
theorem fo_2(h:(Ci.f4y a b c).ahd (Ci.f4x a b c)=true)(e:(cierr (Ci.f4x a b c) != 0)=true):Value.tuple #[rciV rzCi,rciV rzCi,.int .i64 4]=.tuple #[rciV (Ci.f4P a b c),rciV (Ci.f4Q a b c),.int .i64 (Ci.f4E a b c)] :=
 fo_e (by unfold Ci.f4b Ci.f4q;rw [if_pos h,e,Bool.or_true])
theorem fo_3(h:(Ci.f4y a b c).ahd (Ci.f4x a b c)=true)(e:(cierr (Ci.f4y a b c) != 0)=false)(e': (cierr (Ci.f4x a b c) != 0)=false):Value.tuple #[rciV (cicut (Ci.f4y a b c)),rciV (cicut (Ci.f4x a b c)),.int .i64 0]=.tuple #[rciV (Ci.f4P a b c),rciV (Ci.f4Q a b c),.int .i64 (Ci.f4E a b c)]:=by
 have g:¬ Ci.f4b a b c=true:=by unfold Ci.f4b Ci.f4p Ci.f4q;rw [if_pos h,if_pos h,e,e'];decide
 unfold Ci.f4P Ci.f4Q Ci.f4E;rw [if_neg g,if_neg g,if_neg g];unfold Ci.f4p Ci.f4q;rw [if_pos h,if_pos h]
theorem fo_4(h:(Ci.f4y a b c).ahd (Ci.f4x a b c)=false)(e:(cierr (Ci.f4x a b c) != 0)=true):Value.tuple #[rciV rzCi,rciV rzCi,.int .i64 4]=.tuple #[rciV (Ci.f4P a b c),rciV (Ci.f4Q a b c),.int .i64 (Ci.f4E a b c)] :=
 fo_e (by unfold Ci.f4b Ci.f4p;rw [if_neg (by rw [h];decide),e];rfl)
theorem fo_5(h:(Ci.f4y a b c).ahd (Ci.f4x a b c)=false)(e:(cierr (Ci.f4y a b c) != 0)=true):Value.tuple #[rciV rzCi,rciV rzCi,.int .i64 4]=.tuple #[rciV (Ci.f4P a b c),rciV (Ci.f4Q a b c),.int .i64 (Ci.f4E a b c)] :=
 fo_e (by unfold Ci.f4b Ci.f4q;rw [if_neg (by rw [h];decide),e,Bool.or_true])
theorem fo_6(h:(Ci.f4y a b c).ahd (Ci.f4x a b c)=false)(e:(cierr (Ci.f4x a b c) != 0)=false)(e': (cierr (Ci.f4y a b c) != 0)=false):Value.tuple #[rciV (cicut (Ci.f4x a b c)),rciV (cicut (Ci.f4y a b c)),.int .i64 0]=.tuple #[rciV (Ci.f4P a b c),rciV (Ci.f4Q a b c),.int .i64 (Ci.f4E a b c)]:=by
 have h' : ¬ (Ci.f4y a b c).ahd (Ci.f4x a b c)=true:=by rw [h];decide
 have g:¬ Ci.f4b a b c=true:=by unfold Ci.f4b Ci.f4p Ci.f4q;rw [if_neg h', if_neg h', e,e'];decide
 unfold Ci.f4P Ci.f4Q Ci.f4E;rw [if_neg g,if_neg g,if_neg g];unfold Ci.f4p Ci.f4q;rw [if_neg h', if_neg h']
end
def Ci.swp(a b c d x:Ci):Ci:=(((((a.plus b).plus c).plus d).plus x.out).plus ((((a.plus b).plus c).plus d).plus x.out)).plus x.out
def Ci.all4(a b c d:Ci):Bool:=[b.touch a].all id&&[c.touch a,c.touch b].all id&&[d.touch a,d.touch b,d.touch c].all id
theorem swp_ht(a b c d x:Ci):ht (Ci.swp a b c d x).a+ht (Ci.swp a b c d x).b.re+ht (Ci.swp a b c d x).b.im+ht (Ci.swp a b c d x).c≤2*((ht a.a+ht a.b.re+ht a.b.im+ht a.c)+(ht b.a+ht b.b.re+ht b.b.im+ht b.c)+(ht c.a+ht c.b.re+ht c.b.im+ht c.c)+(ht d.a+ht d.b.re+ht d.b.im+ht d.c))+3*(ht x.a+ht x.b.re+ht x.b.im+ht x.c):=by
 have h1:=plus_ht a b
 have h2:=plus_ht (a.plus b) c
 have h3:=plus_ht ((a.plus b).plus c) d
 have h4:=out_hs x
 have h5:=plus_ht (((a.plus b).plus c).plus d) x.out
 have h6:=plus_ht ((((a.plus b).plus c).plus d).plus x.out) ((((a.plus b).plus c).plus d).plus x.out)
 have h7:=plus_ht (((((a.plus b).plus c).plus d).plus x.out).plus ((((a.plus b).plus c).plus d).plus x.out)) x.out
 unfold Ci.swp;omega
theorem ci1_eq(b:Bool):decide ((0:Int)≤idxF [!b] 0)=b:=by cases b<;>rfl
theorem nT{b:Bool}(h:(!b)=false):b=true:=by simpa using h
theorem nF{b:Bool}(h:(!b)=true):b=false:=by simpa using h
theorem wneg(a b:Int):IntKind.wrap .i64 (-(icmp a b))=-(icmp a b):=by
 unfold icmp;split
 ·decide
 ·split<;>decide
end Go.Proofs.YtcdbmjnipaochaaGreat
namespace Go.Proofs.YtcdbmjnipaochaaGreat
open Go.RowKit Rgn Eng
variable {S:Nat→Prop} {W:World}
theorem tc1{v0 w1_0 w1_1 w1_2 w1_3:Value}{b1:Nat}(y x:Ci)(t0:(RingP y).p S v0 W)(B1:W.heap[b1]? = some (.cells #[w1_0,w1_1,w1_2,w1_3] 147 (0,0)))(t1:(RingP x).p S (.agg #[w1_0,w1_1,w1_2,w1_3]) W)(p0:ht x.a+ht x.b.re+ht x.b.im+ht x.c+(ht y.a+ht y.b.re+ht y.b.im+ht y.c)≤67108000):Calls Tryz.prog 231 #[v0,.pointer (some ⟨b1,0,none⟩)] W (RetV (.bool (!(x.touch y))) W):=by
 refine Run.goP (S:=S) ((Pack.nil.s spRing t0).bv B1 none 4 (ringCells t1)) Tryz.func231 rfl ?_
 refine Run.cV [.bool (x.touch y)] kb (fun _ _ _ H=>dsTouch x y (RingP.mk (H.f 4) (H.f 5) (H.f 6) (H.f 7)) (RingP.mk (H.f 0) (H.f 1) (H.f 2) (H.f 3)) p0) ?_
 refine (Bool.eq_false_or_eq_true (x.touch y)).elim (fun c1=>?_) (fun c1=>?_)
 · refine Run.kn c1 ?_
   exact Run.rV (V' := .bool false) ((congrArg Value.bool (by simp [c1])))
 · refine Run.kn c1 ?_
   exact Run.rV (V' := .bool true) ((congrArg Value.bool (by simp [c1])))
theorem ix0{w1_0 w1_1 w1_2 w1_3:Value}{b0 b1:Nat}(n0:Nat)(x:Ci)(B0:∃ r:List Value,W.heap[b0]? = some (.cells ⟨[]++r⟩ 147 (0,0)))(B1:W.heap[b1]? = some (.cells #[w1_0,w1_1,w1_2,w1_3] 147 (0,0)))(t1:(RingP x).p S (.agg #[w1_0,w1_1,w1_2,w1_3]) W):Calls Tryz.prog 292 #[.slice (some ⟨b0,0,none⟩) 0 n0,.func (.func 231) #[] #[.pointer (some ⟨b1,0,none⟩)]] W (RetV (.int .i64 (idxF [] 0)) W):=by
 refine Run.goP (S:=S) ((Pack.nil.bm B0 0 n0 0 ((show AllF (Amb S W) W [] [] from trivial))).bf B1 231 4 (ringCells t1)) Tryz.func292 rfl ?_
 exact Run.rV rfl
theorem ix1{w0_0 w0_1 w0_2 w0_3 w1_0 w1_1 w1_2 w1_3:Value}{b0 b1:Nat}(n0:Nat)(y0 x:Ci)(B0:∃ r:List Value,W.heap[b0]? = some (.cells ⟨[w0_0,w0_1,w0_2,w0_3]++r⟩ 147 (0,0)))(t0_0:(RingP y0).p S (.agg #[w0_0,w0_1,w0_2,w0_3]) W)(B1:W.heap[b1]? = some (.cells #[w1_0,w1_1,w1_2,w1_3] 147 (0,0)))(t1:(RingP x).p S (.agg #[w1_0,w1_1,w1_2,w1_3]) W)(p0:ht x.a+ht x.b.re+ht x.b.im+ht x.c+(ht y0.a+ht y0.b.re+ht y0.b.im+ht y0.c)≤67108000):Calls Tryz.prog 292 #[.slice (some ⟨b0,0,none⟩) 1 n0,.func (.func 231) #[] #[.pointer (some ⟨b1,0,none⟩)]] W (RetV (.int .i64 (idxF [x.touch y0] 0)) W):=by
 refine Run.goP (S:=S) ((Pack.nil.bm B0 1 n0 4 (ringCells t0_0)).bf B1 231 4 (ringCells t1)) Tryz.func292 rfl ?_
 refine Run.cV [.bool (!(x.touch y0))] kb (fun _ _ _ H=>tc1 y0 x (RingP.mk (H.f 0) (H.f 1) (H.f 2) (H.f 3)) (H.b 1) (RingP.mk (H.f 4) (H.f 5) (H.f 6) (H.f 7)) p0) ?_
 refine (Bool.eq_false_or_eq_true (!(x.touch y0))).elim (fun c1=>?_) (fun c1=>?_)
 · refine Run.kn c1 ?_
   exact Run.rV (V' := .int .i64 (0)) ((congrArg (Value.int .i64) (by simp [idxF,nF c1])))
 · refine Run.kn c1 ?_
   exact Run.rV (V' := .int .i64 (-1)) ((congrArg (Value.int .i64) (by simp [idxF,nT c1])))
theorem ix2{w0_0 w0_1 w0_2 w0_3 w0_4 w0_5 w0_6 w0_7 w1_0 w1_1 w1_2 w1_3:Value}{b0 b1:Nat}(n0:Nat)(y0 y1 x:Ci)(B0:∃ r:List Value,W.heap[b0]? = some (.cells ⟨[w0_0,w0_1,w0_2,w0_3,w0_4,w0_5,w0_6,w0_7]++r⟩ 147 (0,0)))(t0_0:(RingP y0).p S (.agg #[w0_0,w0_1,w0_2,w0_3]) W)(t0_1:(RingP y1).p S (.agg #[w0_4,w0_5,w0_6,w0_7]) W)(B1:W.heap[b1]? = some (.cells #[w1_0,w1_1,w1_2,w1_3] 147 (0,0)))(t1:(RingP x).p S (.agg #[w1_0,w1_1,w1_2,w1_3]) W)(p0:ht x.a+ht x.b.re+ht x.b.im+ht x.c+(ht y0.a+ht y0.b.re+ht y0.b.im+ht y0.c)≤67108000)(p1:ht x.a+ht x.b.re+ht x.b.im+ht x.c+(ht y1.a+ht y1.b.re+ht y1.b.im+ht y1.c)≤67108000):Calls Tryz.prog 292 #[.slice (some ⟨b0,0,none⟩) 2 n0,.func (.func 231) #[] #[.pointer (some ⟨b1,0,none⟩)]] W (RetV (.int .i64 (idxF [x.touch y0,x.touch y1] 0)) W):=by
 refine Run.goP (S:=S) ((Pack.nil.bm B0 2 n0 8 (AllF.app (ringCells t0_0) (ringCells t0_1))).bf B1 231 4 (ringCells t1)) Tryz.func292 rfl ?_
 refine Run.cV [.bool (!(x.touch y0))] kb (fun _ _ _ H=>tc1 y0 x (RingP.mk (H.f 0) (H.f 1) (H.f 2) (H.f 3)) (H.b 1) (RingP.mk (H.f 8) (H.f 9) (H.f 10) (H.f 11)) p0) ?_
 refine (Bool.eq_false_or_eq_true (!(x.touch y0))).elim (fun c1=>?_) (fun c1=>?_)
 · refine Run.kn c1 ?_
   exact Run.rV (V' := .int .i64 (0)) ((congrArg (Value.int .i64) (by simp [idxF,nF c1])))
 · refine Run.kn c1 ?_
   refine Run.cV [.bool (!(x.touch y1))] kb (fun _ _ _ H=>tc1 y1 x (RingP.mk (H.f 4) (H.f 5) (H.f 6) (H.f 7)) (H.b 1) (RingP.mk (H.f 8) (H.f 9) (H.f 10) (H.f 11)) p1) ?_
   refine (Bool.eq_false_or_eq_true (!(x.touch y1))).elim (fun c2=>?_) (fun c2=>?_)
   · refine Run.kn c2 ?_
     exact Run.rV (V' := .int .i64 (1)) ((congrArg (Value.int .i64) (by simp [idxF,nT c1,nF c2])))
   · refine Run.kn c2 ?_
     exact Run.rV (V' := .int .i64 (-1)) ((congrArg (Value.int .i64) (by simp [idxF,nT c1,nT c2])))
theorem ix3{w0_0 w0_1 w0_2 w0_3 w0_4 w0_5 w0_6 w0_7 w0_8 w0_9 w0_10 w0_11 w1_0 w1_1 w1_2 w1_3:Value}{b0 b1:Nat}(n0:Nat)(y0 y1 y2 x:Ci)(B0:∃ r:List Value,W.heap[b0]? = some (.cells ⟨[w0_0,w0_1,w0_2,w0_3,w0_4,w0_5,w0_6,w0_7,w0_8,w0_9,w0_10,w0_11]++r⟩ 147 (0,0)))(t0_0:(RingP y0).p S (.agg #[w0_0,w0_1,w0_2,w0_3]) W)(t0_1:(RingP y1).p S (.agg #[w0_4,w0_5,w0_6,w0_7]) W)(t0_2:(RingP y2).p S (.agg #[w0_8,w0_9,w0_10,w0_11]) W)(B1:W.heap[b1]? = some (.cells #[w1_0,w1_1,w1_2,w1_3] 147 (0,0)))(t1:(RingP x).p S (.agg #[w1_0,w1_1,w1_2,w1_3]) W)(p0:ht x.a+ht x.b.re+ht x.b.im+ht x.c+(ht y0.a+ht y0.b.re+ht y0.b.im+ht y0.c)≤67108000)(p1:ht x.a+ht x.b.re+ht x.b.im+ht x.c+(ht y1.a+ht y1.b.re+ht y1.b.im+ht y1.c)≤67108000)(p2:ht x.a+ht x.b.re+ht x.b.im+ht x.c+(ht y2.a+ht y2.b.re+ht y2.b.im+ht y2.c)≤67108000):Calls Tryz.prog 292 #[.slice (some ⟨b0,0,none⟩) 3 n0,.func (.func 231) #[] #[.pointer (some ⟨b1,0,none⟩)]] W (RetV (.int .i64 (idxF [x.touch y0,x.touch y1,x.touch y2] 0)) W):=by
 refine Run.goP (S:=S) ((Pack.nil.bm B0 3 n0 12 (AllF.app (ringCells t0_0) (AllF.app (ringCells t0_1) (ringCells t0_2)))).bf B1 231 4 (ringCells t1)) Tryz.func292 rfl ?_
 refine Run.cV [.bool (!(x.touch y0))] kb (fun _ _ _ H=>tc1 y0 x (RingP.mk (H.f 0) (H.f 1) (H.f 2) (H.f 3)) (H.b 1) (RingP.mk (H.f 12) (H.f 13) (H.f 14) (H.f 15)) p0) ?_
 refine (Bool.eq_false_or_eq_true (!(x.touch y0))).elim (fun c1=>?_) (fun c1=>?_)
 · refine Run.kn c1 ?_
   exact Run.rV (V' := .int .i64 (0)) ((congrArg (Value.int .i64) (by simp [idxF,nF c1])))
 · refine Run.kn c1 ?_
   refine Run.cV [.bool (!(x.touch y1))] kb (fun _ _ _ H=>tc1 y1 x (RingP.mk (H.f 4) (H.f 5) (H.f 6) (H.f 7)) (H.b 1) (RingP.mk (H.f 12) (H.f 13) (H.f 14) (H.f 15)) p1) ?_
   refine (Bool.eq_false_or_eq_true (!(x.touch y1))).elim (fun c2=>?_) (fun c2=>?_)
   · refine Run.kn c2 ?_
     exact Run.rV (V' := .int .i64 (1)) ((congrArg (Value.int .i64) (by simp [idxF,nT c1,nF c2])))
   · refine Run.kn c2 ?_
     refine Run.cV [.bool (!(x.touch y2))] kb (fun _ _ _ H=>tc1 y2 x (RingP.mk (H.f 8) (H.f 9) (H.f 10) (H.f 11)) (H.b 1) (RingP.mk (H.f 12) (H.f 13) (H.f 14) (H.f 15)) p2) ?_
     refine (Bool.eq_false_or_eq_true (!(x.touch y2))).elim (fun c3=>?_) (fun c3=>?_)
     · refine Run.kn c3 ?_
       exact Run.rV (V' := .int .i64 (2)) ((congrArg (Value.int .i64) (by simp [idxF,nT c1,nT c2,nF c3])))
     · refine Run.kn c3 ?_
       exact Run.rV (V' := .int .i64 (-1)) ((congrArg (Value.int .i64) (by simp [idxF,nT c1,nT c2,nT c3])))
theorem cf0{w1_0 w1_1 w1_2 w1_3:Value}{b0 b1:Nat}(n0:Nat)(x:Ci)(B0:∃ r:List Value,W.heap[b0]? = some (.cells ⟨[]++r⟩ 147 (0,0)))(B1:W.heap[b1]? = some (.cells #[w1_0,w1_1,w1_2,w1_3] 147 (0,0)))(t1:(RingP x).p S (.agg #[w1_0,w1_1,w1_2,w1_3]) W):Calls Tryz.prog 230 #[.slice (some ⟨b0,0,none⟩) 0 n0,.func (.func 231) #[] #[.pointer (some ⟨b1,0,none⟩)]] W (RetV (.bool (!([].all id))) W):=by
 refine Run.goP (S:=S) ((Pack.nil.bm B0 0 n0 0 ((show AllF (Amb S W) W [] [] from trivial))).bf B1 231 4 (ringCells t1)) Tryz.func230 rfl ?_
 refine Run.cV [.int .i64 (idxF [] 0)] kb (fun _ _ _ H=>ix0 n0 x (H.bq 0 0) (H.b 1) (RingP.mk (H.f 0) (H.f 1) (H.f 2) (H.f 3))) ?_
 refine Run.ic (idxF [] 0) 0 (decide (0≤(idxF [] 0))) ?_
 exact Run.rV ((congrArg Value.bool (idxF_all _)))
theorem cf1{w0_0 w0_1 w0_2 w0_3 w1_0 w1_1 w1_2 w1_3:Value}{b0 b1:Nat}(n0:Nat)(y0 x:Ci)(B0:∃ r:List Value,W.heap[b0]? = some (.cells ⟨[w0_0,w0_1,w0_2,w0_3]++r⟩ 147 (0,0)))(t0_0:(RingP y0).p S (.agg #[w0_0,w0_1,w0_2,w0_3]) W)(B1:W.heap[b1]? = some (.cells #[w1_0,w1_1,w1_2,w1_3] 147 (0,0)))(t1:(RingP x).p S (.agg #[w1_0,w1_1,w1_2,w1_3]) W)(p0:ht x.a+ht x.b.re+ht x.b.im+ht x.c+(ht y0.a+ht y0.b.re+ht y0.b.im+ht y0.c)≤67108000):Calls Tryz.prog 230 #[.slice (some ⟨b0,0,none⟩) 1 n0,.func (.func 231) #[] #[.pointer (some ⟨b1,0,none⟩)]] W (RetV (.bool (!([x.touch y0].all id))) W):=by
 refine Run.goP (S:=S) ((Pack.nil.bm B0 1 n0 4 (ringCells t0_0)).bf B1 231 4 (ringCells t1)) Tryz.func230 rfl ?_
 refine Run.cV [.int .i64 (idxF [x.touch y0] 0)] kb (fun _ _ _ H=>ix1 n0 y0 x (H.bq 0 4) (RingP.mk (H.f 0) (H.f 1) (H.f 2) (H.f 3)) (H.b 1) (RingP.mk (H.f 4) (H.f 5) (H.f 6) (H.f 7)) p0) ?_
 refine Run.ic (idxF [x.touch y0] 0) 0 (decide (0≤(idxF [x.touch y0] 0))) ?_
 exact Run.rV ((congrArg Value.bool (idxF_all _)))
theorem cf2{w0_0 w0_1 w0_2 w0_3 w0_4 w0_5 w0_6 w0_7 w1_0 w1_1 w1_2 w1_3:Value}{b0 b1:Nat}(n0:Nat)(y0 y1 x:Ci)(B0:∃ r:List Value,W.heap[b0]? = some (.cells ⟨[w0_0,w0_1,w0_2,w0_3,w0_4,w0_5,w0_6,w0_7]++r⟩ 147 (0,0)))(t0_0:(RingP y0).p S (.agg #[w0_0,w0_1,w0_2,w0_3]) W)(t0_1:(RingP y1).p S (.agg #[w0_4,w0_5,w0_6,w0_7]) W)(B1:W.heap[b1]? = some (.cells #[w1_0,w1_1,w1_2,w1_3] 147 (0,0)))(t1:(RingP x).p S (.agg #[w1_0,w1_1,w1_2,w1_3]) W)(p0:ht x.a+ht x.b.re+ht x.b.im+ht x.c+(ht y0.a+ht y0.b.re+ht y0.b.im+ht y0.c)≤67108000)(p1:ht x.a+ht x.b.re+ht x.b.im+ht x.c+(ht y1.a+ht y1.b.re+ht y1.b.im+ht y1.c)≤67108000):Calls Tryz.prog 230 #[.slice (some ⟨b0,0,none⟩) 2 n0,.func (.func 231) #[] #[.pointer (some ⟨b1,0,none⟩)]] W (RetV (.bool (!([x.touch y0,x.touch y1].all id))) W):=by
 refine Run.goP (S:=S) ((Pack.nil.bm B0 2 n0 8 (AllF.app (ringCells t0_0) (ringCells t0_1))).bf B1 231 4 (ringCells t1)) Tryz.func230 rfl ?_
 refine Run.cV [.int .i64 (idxF [x.touch y0,x.touch y1] 0)] kb (fun _ _ _ H=>ix2 n0 y0 y1 x (H.bq 0 8) (RingP.mk (H.f 0) (H.f 1) (H.f 2) (H.f 3)) (RingP.mk (H.f 4) (H.f 5) (H.f 6) (H.f 7)) (H.b 1) (RingP.mk (H.f 8) (H.f 9) (H.f 10) (H.f 11)) p0 p1) ?_
 refine Run.ic (idxF [x.touch y0,x.touch y1] 0) 0 (decide (0≤(idxF [x.touch y0,x.touch y1] 0))) ?_
 exact Run.rV ((congrArg Value.bool (idxF_all _)))
theorem cf3{w0_0 w0_1 w0_2 w0_3 w0_4 w0_5 w0_6 w0_7 w0_8 w0_9 w0_10 w0_11 w1_0 w1_1 w1_2 w1_3:Value}{b0 b1:Nat}(n0:Nat)(y0 y1 y2 x:Ci)(B0:∃ r:List Value,W.heap[b0]? = some (.cells ⟨[w0_0,w0_1,w0_2,w0_3,w0_4,w0_5,w0_6,w0_7,w0_8,w0_9,w0_10,w0_11]++r⟩ 147 (0,0)))(t0_0:(RingP y0).p S (.agg #[w0_0,w0_1,w0_2,w0_3]) W)(t0_1:(RingP y1).p S (.agg #[w0_4,w0_5,w0_6,w0_7]) W)(t0_2:(RingP y2).p S (.agg #[w0_8,w0_9,w0_10,w0_11]) W)(B1:W.heap[b1]? = some (.cells #[w1_0,w1_1,w1_2,w1_3] 147 (0,0)))(t1:(RingP x).p S (.agg #[w1_0,w1_1,w1_2,w1_3]) W)(p0:ht x.a+ht x.b.re+ht x.b.im+ht x.c+(ht y0.a+ht y0.b.re+ht y0.b.im+ht y0.c)≤67108000)(p1:ht x.a+ht x.b.re+ht x.b.im+ht x.c+(ht y1.a+ht y1.b.re+ht y1.b.im+ht y1.c)≤67108000)(p2:ht x.a+ht x.b.re+ht x.b.im+ht x.c+(ht y2.a+ht y2.b.re+ht y2.b.im+ht y2.c)≤67108000):Calls Tryz.prog 230 #[.slice (some ⟨b0,0,none⟩) 3 n0,.func (.func 231) #[] #[.pointer (some ⟨b1,0,none⟩)]] W (RetV (.bool (!([x.touch y0,x.touch y1,x.touch y2].all id))) W):=by
 refine Run.goP (S:=S) ((Pack.nil.bm B0 3 n0 12 (AllF.app (ringCells t0_0) (AllF.app (ringCells t0_1) (ringCells t0_2)))).bf B1 231 4 (ringCells t1)) Tryz.func230 rfl ?_
 refine Run.cV [.int .i64 (idxF [x.touch y0,x.touch y1,x.touch y2] 0)] kb (fun _ _ _ H=>ix3 n0 y0 y1 y2 x (H.bq 0 12) (RingP.mk (H.f 0) (H.f 1) (H.f 2) (H.f 3)) (RingP.mk (H.f 4) (H.f 5) (H.f 6) (H.f 7)) (RingP.mk (H.f 8) (H.f 9) (H.f 10) (H.f 11)) (H.b 1) (RingP.mk (H.f 12) (H.f 13) (H.f 14) (H.f 15)) p0 p1 p2) ?_
 refine Run.ic (idxF [x.touch y0,x.touch y1,x.touch y2] 0) 0 (decide (0≤(idxF [x.touch y0,x.touch y1,x.touch y2] 0))) ?_
 exact Run.rV ((congrArg Value.bool (idxF_all _)))
theorem tch3{w0_0 w0_1 w0_2 w0_3 w0_4 w0_5 w0_6 w0_7 w0_8 w0_9 w0_10 w0_11:Value}{b0:Nat}(n0:Nat)(d0 d1 d2:Ci)(B0:∃ r:List Value,W.heap[b0]? = some (.cells ⟨[w0_0,w0_1,w0_2,w0_3,w0_4,w0_5,w0_6,w0_7,w0_8,w0_9,w0_10,w0_11]++r⟩ 147 (0,0)))(t0_0:(RingP d0).p S (.agg #[w0_0,w0_1,w0_2,w0_3]) W)(t0_1:(RingP d1).p S (.agg #[w0_4,w0_5,w0_6,w0_7]) W)(t0_2:(RingP d2).p S (.agg #[w0_8,w0_9,w0_10,w0_11]) W)(p0:ht d1.a+ht d1.b.re+ht d1.b.im+ht d1.c+(ht d0.a+ht d0.b.re+ht d0.b.im+ht d0.c)≤67108000)(p1:ht d2.a+ht d2.b.re+ht d2.b.im+ht d2.c+(ht d0.a+ht d0.b.re+ht d0.b.im+ht d0.c)≤67108000)(p2:ht d2.a+ht d2.b.re+ht d2.b.im+ht d2.c+(ht d1.a+ht d1.b.re+ht d1.b.im+ht d1.c)≤67108000):Calls Tryz.prog 106 #[.slice (some ⟨b0,0,none⟩) 3 (n0+3)] W (RetV (.bool ([d1.touch d0].all id&&[d2.touch d0,d2.touch d1].all id)) W):=by
 refine Run.goP (S:=S) (Pack.nil.bm B0 3 (n0+3) 12 (AllF.app (ringCells t0_0) (AllF.app (ringCells t0_1) (ringCells t0_2)))) Tryz.func106 rfl ?_
 refine Run.cV [.bool (!([].all id))] kb (fun _ _ _ H=>cf0 (n0+3) d0 (H.bq 0 0) (H.b 1) (RingP.mk (H.f 0) (H.f 1) (H.f 2) (H.f 3))) ?_
 refine Run.kn (b:=false) rfl ?_
 refine Run.cV [.bool (!([d1.touch d0].all id))] kb (fun _ _ _ H=>cf1 (n0+3) d0 d1 (H.bq 0 4) (RingP.mk (H.f 0) (H.f 1) (H.f 2) (H.f 3)) (H.b 2) (RingP.mk (H.f 4) (H.f 5) (H.f 6) (H.f 7)) p0) ?_
 refine (Bool.eq_false_or_eq_true (!([d1.touch d0].all id))).elim (fun c1=>?_) (fun c1=>?_)
 · refine Run.kn c1 ?_
   exact Run.rV (V' := .bool false) ((congrArg Value.bool (by simp only [nF c1,Bool.and_false,Bool.false_and,Bool.and_true])))
 · refine Run.kn c1 ?_
   refine Run.cV [.bool (!([d2.touch d0,d2.touch d1].all id))] kb (fun _ _ _ H=>cf2 (n0+3) d0 d1 d2 (H.bq 0 8) (RingP.mk (H.f 0) (H.f 1) (H.f 2) (H.f 3)) (RingP.mk (H.f 4) (H.f 5) (H.f 6) (H.f 7)) (H.b 3) (RingP.mk (H.f 8) (H.f 9) (H.f 10) (H.f 11)) p1 p2) ?_
   refine (Bool.eq_false_or_eq_true (!([d2.touch d0,d2.touch d1].all id))).elim (fun c2=>?_) (fun c2=>?_)
   · refine Run.kn c2 ?_
     exact Run.rV (V' := .bool false) ((congrArg Value.bool (by simp only [nT c1,nF c2,Bool.and_false,Bool.false_and,Bool.and_true])))
   · refine Run.kn c2 ?_
     exact Run.rV (V' := .bool true) ((congrArg Value.bool (by simp only [nT c1,nT c2,Bool.and_false,Bool.false_and,Bool.and_true])))
theorem tch4{w0_0 w0_1 w0_2 w0_3 w0_4 w0_5 w0_6 w0_7 w0_8 w0_9 w0_10 w0_11 w0_12 w0_13 w0_14 w0_15:Value}{b0:Nat}(n0:Nat)(d0 d1 d2 d3:Ci)(B0:∃ r:List Value,W.heap[b0]? = some (.cells ⟨[w0_0,w0_1,w0_2,w0_3,w0_4,w0_5,w0_6,w0_7,w0_8,w0_9,w0_10,w0_11,w0_12,w0_13,w0_14,w0_15]++r⟩ 147 (0,0)))(t0_0:(RingP d0).p S (.agg #[w0_0,w0_1,w0_2,w0_3]) W)(t0_1:(RingP d1).p S (.agg #[w0_4,w0_5,w0_6,w0_7]) W)(t0_2:(RingP d2).p S (.agg #[w0_8,w0_9,w0_10,w0_11]) W)(t0_3:(RingP d3).p S (.agg #[w0_12,w0_13,w0_14,w0_15]) W)(p0:ht d1.a+ht d1.b.re+ht d1.b.im+ht d1.c+(ht d0.a+ht d0.b.re+ht d0.b.im+ht d0.c)≤67108000)(p1:ht d2.a+ht d2.b.re+ht d2.b.im+ht d2.c+(ht d0.a+ht d0.b.re+ht d0.b.im+ht d0.c)≤67108000)(p2:ht d2.a+ht d2.b.re+ht d2.b.im+ht d2.c+(ht d1.a+ht d1.b.re+ht d1.b.im+ht d1.c)≤67108000)(p3:ht d3.a+ht d3.b.re+ht d3.b.im+ht d3.c+(ht d0.a+ht d0.b.re+ht d0.b.im+ht d0.c)≤67108000)(p4:ht d3.a+ht d3.b.re+ht d3.b.im+ht d3.c+(ht d1.a+ht d1.b.re+ht d1.b.im+ht d1.c)≤67108000)(p5:ht d3.a+ht d3.b.re+ht d3.b.im+ht d3.c+(ht d2.a+ht d2.b.re+ht d2.b.im+ht d2.c)≤67108000):Calls Tryz.prog 106 #[.slice (some ⟨b0,0,none⟩) 4 (n0+4)] W (RetV (.bool ([d1.touch d0].all id&&[d2.touch d0,d2.touch d1].all id&&[d3.touch d0,d3.touch d1,d3.touch d2].all id)) W):=by
 refine Run.goP (S:=S) (Pack.nil.bm B0 4 (n0+4) 16 (AllF.app (ringCells t0_0) (AllF.app (ringCells t0_1) (AllF.app (ringCells t0_2) (ringCells t0_3))))) Tryz.func106 rfl ?_
 refine Run.cV [.bool (!([].all id))] kb (fun _ _ _ H=>cf0 (n0+4) d0 (H.bq 0 0) (H.b 1) (RingP.mk (H.f 0) (H.f 1) (H.f 2) (H.f 3))) ?_
 refine Run.kn (b:=false) rfl ?_
 refine Run.cV [.bool (!([d1.touch d0].all id))] kb (fun _ _ _ H=>cf1 (n0+4) d0 d1 (H.bq 0 4) (RingP.mk (H.f 0) (H.f 1) (H.f 2) (H.f 3)) (H.b 2) (RingP.mk (H.f 4) (H.f 5) (H.f 6) (H.f 7)) p0) ?_
 refine (Bool.eq_false_or_eq_true (!([d1.touch d0].all id))).elim (fun c1=>?_) (fun c1=>?_)
 · refine Run.kn c1 ?_
   exact Run.rV (V' := .bool false) ((congrArg Value.bool (by simp only [nF c1,Bool.and_false,Bool.false_and,Bool.and_true])))
 · refine Run.kn c1 ?_
   refine Run.cV [.bool (!([d2.touch d0,d2.touch d1].all id))] kb (fun _ _ _ H=>cf2 (n0+4) d0 d1 d2 (H.bq 0 8) (RingP.mk (H.f 0) (H.f 1) (H.f 2) (H.f 3)) (RingP.mk (H.f 4) (H.f 5) (H.f 6) (H.f 7)) (H.b 3) (RingP.mk (H.f 8) (H.f 9) (H.f 10) (H.f 11)) p1 p2) ?_
   refine (Bool.eq_false_or_eq_true (!([d2.touch d0,d2.touch d1].all id))).elim (fun c2=>?_) (fun c2=>?_)
   · refine Run.kn c2 ?_
     exact Run.rV (V' := .bool false) ((congrArg Value.bool (by simp only [nT c1,nF c2,Bool.and_false,Bool.false_and,Bool.and_true])))
   · refine Run.kn c2 ?_
     refine Run.cV [.bool (!([d3.touch d0,d3.touch d1,d3.touch d2].all id))] kb (fun _ _ _ H=>cf3 (n0+4) d0 d1 d2 d3 (H.bq 0 12) (RingP.mk (H.f 0) (H.f 1) (H.f 2) (H.f 3)) (RingP.mk (H.f 4) (H.f 5) (H.f 6) (H.f 7)) (RingP.mk (H.f 8) (H.f 9) (H.f 10) (H.f 11)) (H.b 4) (RingP.mk (H.f 12) (H.f 13) (H.f 14) (H.f 15)) p3 p4 p5) ?_
     refine (Bool.eq_false_or_eq_true (!([d3.touch d0,d3.touch d1,d3.touch d2].all id))).elim (fun c3=>?_) (fun c3=>?_)
     · refine Run.kn c3 ?_
       exact Run.rV (V' := .bool false) ((congrArg Value.bool (by simp only [nT c1,nT c2,nF c3,Bool.and_false,Bool.false_and,Bool.and_true])))
     · refine Run.kn c3 ?_
       exact Run.rV (V' := .bool true) ((congrArg Value.bool (by simp only [nT c1,nT c2,nT c3,Bool.and_false,Bool.false_and,Bool.and_true])))
theorem pl2Y{b0:Nat}(T0:TypeId)(d0 d1:Ci)(B0:W.heap[b0]? = some (.cells (⟨(ciC d0).toList++((ciC d1).toList)⟩) T0 (0,0)))(p0:dsOk (rci d0)=true)(p1:dsOk (rci d1)=true):Calls Tryz.prog 93 #[.slice (some ⟨b0,0,none⟩) 2 2] W (RetB 147 2 (ringF [d0,d1]) (.bool true) S W):=by
 refine Run.goP (S:=S) (Pack.nil.b B0 (some 2) 32) Tryz.func93 rfl ?_
 refine Run.cR (spRingC true) (fun _ _ _ H=>ePlateO d0 p0) ?_
 refine Run.a0 147 138 3 (fun cp1=>?_)
 refine Run.cR (spRingC true) (fun _ _ _ H=>ePlateO d1 p1) ?_
 refine Run.ap 138 4 1 cp1 7 (fun cp2=>?_)
 exact Run.rB 4 cp2
theorem pl3Y{b0:Nat}(T0:TypeId)(d0 d1 d2:Ci)(B0:W.heap[b0]? = some (.cells (⟨(ciC d0).toList++((ciC d1).toList++((ciC d2).toList))⟩) T0 (0,0)))(p0:dsOk (rci d0)=true)(p1:dsOk (rci d1)=true)(p2:dsOk (rci d2)=true):Calls Tryz.prog 93 #[.slice (some ⟨b0,0,none⟩) 3 3] W (RetB 147 3 (ringF [d0,d1,d2]) (.bool true) S W):=by
 refine Run.goP (S:=S) (Pack.nil.b B0 (some 3) 48) Tryz.func93 rfl ?_
 refine Run.cR (spRingC true) (fun _ _ _ H=>ePlateO d0 p0) ?_
 refine Run.a0 147 138 3 (fun cp1=>?_)
 refine Run.cR (spRingC true) (fun _ _ _ H=>ePlateO d1 p1) ?_
 refine Run.ap 138 4 1 cp1 7 (fun cp2=>?_)
 refine Run.cR (spRingC true) (fun _ _ _ H=>ePlateO d2 p2) ?_
 refine Run.ap 138 4 2 cp2 10 (fun cp3=>?_)
 exact Run.rB 4 cp3
theorem pl30{b0:Nat}(T0:TypeId)(r0 r1 r2:RCi)(B0:W.heap[b0]? = some (.cells (⟨(rciC r0).toList++((rciC r1).toList++((rciC r2).toList))⟩) T0 (0,0)))(p0:dsOk r0=false):Calls Tryz.prog 93 #[.slice (some ⟨b0,0,none⟩) 3 3] W (RetV (.tuple #[.slice none 0 0,.bool false]) W):=by
 refine Run.goP (S:=Z0) (Pack.nil.b B0 (some 3) 48) Tryz.func93 rfl ?_
 refine Run.cR (spRingJC false) (fun _ _ _ H=>ePlateN r0 p0) ?_
 exact Run.rV rfl
theorem pl31{b0:Nat}(T0:TypeId)(d0:Ci)(r1 r2:RCi)(B0:W.heap[b0]? = some (.cells (⟨(ciC d0).toList++((rciC r1).toList++((rciC r2).toList))⟩) T0 (0,0)))(p0:dsOk (rci d0)=true)(p1:dsOk r1=false):Calls Tryz.prog 93 #[.slice (some ⟨b0,0,none⟩) 3 3] W (RetV (.tuple #[.slice none 0 0,.bool false]) W):=by
 refine Run.goP (S:=Z0) (Pack.nil.b B0 (some 3) 48) Tryz.func93 rfl ?_
 refine Run.cR (spRingC true) (fun _ _ _ H=>ePlateO d0 p0) ?_
 refine Run.a0 147 138 3 (fun cp1=>?_)
 refine Run.cR (spRingJC false) (fun _ _ _ H=>ePlateN r1 p1) ?_
 exact Run.rV rfl
theorem pl32{b0:Nat}(T0:TypeId)(d0 d1:Ci)(r2:RCi)(B0:W.heap[b0]? = some (.cells (⟨(ciC d0).toList++((ciC d1).toList++((rciC r2).toList))⟩) T0 (0,0)))(p0:dsOk (rci d0)=true)(p1:dsOk (rci d1)=true)(p2:dsOk r2=false):Calls Tryz.prog 93 #[.slice (some ⟨b0,0,none⟩) 3 3] W (RetV (.tuple #[.slice none 0 0,.bool false]) W):=by
 refine Run.goP (S:=Z0) (Pack.nil.b B0 (some 3) 48) Tryz.func93 rfl ?_
 refine Run.cR (spRingC true) (fun _ _ _ H=>ePlateO d0 p0) ?_
 refine Run.a0 147 138 3 (fun cp1=>?_)
 refine Run.cR (spRingC true) (fun _ _ _ H=>ePlateO d1 p1) ?_
 refine Run.ap 138 4 1 cp1 7 (fun cp2=>?_)
 refine Run.cR (spRingJC false) (fun _ _ _ H=>ePlateN r2 p2) ?_
 exact Run.rV rfl
theorem pl4Y{b0:Nat}(T0:TypeId)(d0 d1 d2 d3:Ci)(B0:W.heap[b0]? = some (.cells (⟨(ciC d0).toList++((ciC d1).toList++((ciC d2).toList++((ciC d3).toList)))⟩) T0 (0,0)))(p0:dsOk (rci d0)=true)(p1:dsOk (rci d1)=true)(p2:dsOk (rci d2)=true)(p3:dsOk (rci d3)=true):Calls Tryz.prog 93 #[.slice (some ⟨b0,0,none⟩) 4 4] W (RetB 147 4 (ringF [d0,d1,d2,d3]) (.bool true) S W):=by
 refine Run.goP (S:=S) (Pack.nil.b B0 (some 4) 64) Tryz.func93 rfl ?_
 refine Run.cR (spRingC true) (fun _ _ _ H=>ePlateO d0 p0) ?_
 refine Run.a0 147 138 3 (fun cp1=>?_)
 refine Run.cR (spRingC true) (fun _ _ _ H=>ePlateO d1 p1) ?_
 refine Run.ap 138 4 1 cp1 7 (fun cp2=>?_)
 refine Run.cR (spRingC true) (fun _ _ _ H=>ePlateO d2 p2) ?_
 refine Run.ap 138 4 2 cp2 10 (fun cp3=>?_)
 refine Run.cR (spRingC true) (fun _ _ _ H=>ePlateO d3 p3) ?_
 refine Run.ap 138 4 3 cp3 13 (fun cp4=>?_)
 exact Run.rB 4 cp4
theorem acm0{w1_0 w1_1 w1_2 w1_3 w1_4 w1_5 w1_6 w1_7 w1_8 w1_9 w1_10 w1_11:Value}{b1:Nat}(x0 x1 x2 x3 y0 y1 y2 y3 z0 z1 z2 z3:Rat)(B1:W.heap[b1]? = some (.cells #[w1_0,w1_1,w1_2,w1_3,w1_4,w1_5,w1_6,w1_7,w1_8,w1_9,w1_10,w1_11] 282 (0,0)))(hw1_0:(RatP x0).p S w1_0 W)(hw1_1:(RatP x1).p S w1_1 W)(hw1_2:(RatP x2).p S w1_2 W)(hw1_3:(RatP x3).p S w1_3 W)(hw1_4:(RatP y0).p S w1_4 W)(hw1_5:(RatP y1).p S w1_5 W)(hw1_6:(RatP y2).p S w1_6 W)(hw1_7:(RatP y3).p S w1_7 W)(hw1_8:(RatP z0).p S w1_8 W)(hw1_9:(RatP z1).p S w1_9 W)(hw1_10:(RatP z2).p S w1_10 W)(hw1_11:(RatP z3).p S w1_11 W)(p0:ht x0+ht x1+ht x2+ht x3≤40000)(p1:ht y0+ht y1+ht y2+ht y3≤40000)(p2:ht z0+ht z1+ht z2+ht z3≤40000):Calls Tryz.prog 233 #[.int .i64 0,.pointer (some ⟨b1,0,none⟩)] W (Ret (RatP (mn3 x1 x2 x3 y1 y2 y3 z1 z2 z3)) Z0 W):=by
 obtain⟨ex0,ex1,ex2,ex3,ey0,ey1,ey2,ey3,ez0,ez1,ez2,ez3⟩:ht x0≤40000∧ht x1≤40000∧ht x2≤40000∧ht x3≤40000∧ht y0≤40000∧ht y1≤40000∧ht y2≤40000∧ht y3≤40000∧ht z0≤40000∧ht z1≤40000∧ht z2≤40000∧ht z3≤40000:=by omega
 have k0:=hb_mul ey2 ez3 80000
 have k1:=hb_mul ey3 ez2 80000
 have k2:=hb_sub k0 k1 160000
 have k3:=hb_mul k2 ex1 200000
 have k4:=hb_add (Nat.le_of_eq ht_zero) k3 200002
 have k5:=hb_mul ey3 ez1 80000
 have k6:=hb_mul ey1 ez3 80000
 have k7:=hb_sub k5 k6 160000
 have k8:=hb_mul k7 ex2 200000
 have k9:=hb_add k4 k8 400002
 have k10:=hb_mul ey1 ez2 80000
 have k11:=hb_mul ey2 ez1 80000
 have k12:=hb_sub k10 k11 160000
 have k13:=hb_mul k12 ex3 200000
 have k14:=hb_add k9 k13 600002
 refine Run.goP (S:=S) ((Pack.nil.k (.int .i64 0) [] (.s (.o (.c (.int .i64 0))))).bv B1 none 12 (AllF.rat hw1_0 (AllF.rat hw1_1 (AllF.rat hw1_2 (AllF.rat hw1_3 (AllF.rat hw1_4 (AllF.rat hw1_5 (AllF.rat hw1_6 (AllF.rat hw1_7 (AllF.rat hw1_8 (AllF.rat hw1_9 (AllF.rat hw1_10 (AllF.rat hw1_11 AllF.z))))))))))))) Tryz.func233 rfl ?_
 refine Run.a0 3 31 1 (fun cp1=>?_)
 refine Run.ap 31 2 1 cp1 3 (fun cp2=>?_)
 refine Run.ap 31 2 2 cp2 4 (fun cp3=>?_)
 refine Run.dr ?_
 refine RunD.en ?_
 refine Run.dr ?_
 refine RunD.cO 6 softRat (fun _ _ _ H=>qMul y2 z3 (RatP.blk (H.oz 6)) (anyV (H.f 6)) (anyV (H.f 11)) (Nat.le_trans (Nat.add_le_add ey2 ez3) (by decide))) ?_
 refine RunD.en ?_
 refine Run.dr ?_
 refine RunD.cO 7 softRat (fun _ _ _ H=>qMul y3 z2 (RatP.blk (H.oz 7)) (anyV (H.f 7)) (anyV (H.f 10)) (Nat.le_trans (Nat.add_le_add ey3 ez2) (by decide))) ?_
 refine RunD.cO 6 softRat (fun _ _ _ H=>qSub (y2*z3) (y3*z2) (RatP.blk (q:=y2*z3) (H.o 6)) (anyV (H.o 6)) (anyV (H.o 7)) (Nat.le_trans (Nat.add_le_add k0 k1) (by decide))) ?_
 refine RunD.en ?_
 refine Run.cO 6 softRat (fun _ _ _ H=>qMul ((y2*z3)-(y3*z2)) x1 (RatP.blk (q:=(y2*z3)-(y3*z2)) (H.o 6)) (anyV (H.o 6)) (anyV (H.f 1)) (Nat.le_trans (Nat.add_le_add k2 ex1) (by decide))) ?_
 refine Run.cO 5 softRat (fun _ _ _ H=>qAdd (0:Rat) (((y2*z3)-(y3*z2))*x1) (RatP.blk (H.oz 5)) (anyV (H.oz 5)) (anyV (H.o 6)) (Nat.le_trans (Nat.add_le_add (Nat.le_of_eq ht_zero) k3) (by decide))) ?_
 refine Run.dr ?_
 refine RunD.en ?_
 refine Run.dr ?_
 refine RunD.cO 8 softRat (fun _ _ _ H=>qMul y3 z1 (RatP.blk (H.oz 8)) (anyV (H.f 7)) (anyV (H.f 9)) (Nat.le_trans (Nat.add_le_add ey3 ez1) (by decide))) ?_
 refine RunD.en ?_
 refine Run.dr ?_
 refine RunD.cO 9 softRat (fun _ _ _ H=>qMul y1 z3 (RatP.blk (H.oz 9)) (anyV (H.f 5)) (anyV (H.f 11)) (Nat.le_trans (Nat.add_le_add ey1 ez3) (by decide))) ?_
 refine RunD.cO 8 softRat (fun _ _ _ H=>qSub (y3*z1) (y1*z3) (RatP.blk (q:=y3*z1) (H.o 8)) (anyV (H.o 8)) (anyV (H.o 9)) (Nat.le_trans (Nat.add_le_add k5 k6) (by decide))) ?_
 refine RunD.en ?_
 refine Run.cO 8 softRat (fun _ _ _ H=>qMul ((y3*z1)-(y1*z3)) x2 (RatP.blk (q:=(y3*z1)-(y1*z3)) (H.o 8)) (anyV (H.o 8)) (anyV (H.f 2)) (Nat.le_trans (Nat.add_le_add k7 ex2) (by decide))) ?_
 refine Run.cO 5 softRat (fun _ _ _ H=>qAdd ((0:Rat)+(((y2*z3)-(y3*z2))*x1)) (((y3*z1)-(y1*z3))*x2) (RatP.blk (q:=(0:Rat)+(((y2*z3)-(y3*z2))*x1)) (H.o 5)) (anyV (H.o 5)) (anyV (H.o 8)) (Nat.le_trans (Nat.add_le_add k4 k8) (by decide))) ?_
 refine Run.dr ?_
 refine RunD.en ?_
 refine Run.dr ?_
 refine RunD.cO 10 softRat (fun _ _ _ H=>qMul y1 z2 (RatP.blk (H.oz 10)) (anyV (H.f 5)) (anyV (H.f 10)) (Nat.le_trans (Nat.add_le_add ey1 ez2) (by decide))) ?_
 refine RunD.en ?_
 refine Run.dr ?_
 refine RunD.cO 11 softRat (fun _ _ _ H=>qMul y2 z1 (RatP.blk (H.oz 11)) (anyV (H.f 6)) (anyV (H.f 9)) (Nat.le_trans (Nat.add_le_add ey2 ez1) (by decide))) ?_
 refine RunD.cO 10 softRat (fun _ _ _ H=>qSub (y1*z2) (y2*z1) (RatP.blk (q:=y1*z2) (H.o 10)) (anyV (H.o 10)) (anyV (H.o 11)) (Nat.le_trans (Nat.add_le_add k10 k11) (by decide))) ?_
 refine RunD.en ?_
 refine Run.cO 10 softRat (fun _ _ _ H=>qMul ((y1*z2)-(y2*z1)) x3 (RatP.blk (q:=(y1*z2)-(y2*z1)) (H.o 10)) (anyV (H.o 10)) (anyV (H.f 3)) (Nat.le_trans (Nat.add_le_add k12 ex3) (by decide))) ?_
 refine Run.cO 5 softRat (fun _ _ _ H=>qAdd (((0:Rat)+(((y2*z3)-(y3*z2))*x1))+(((y3*z1)-(y1*z3))*x2)) (((y1*z2)-(y2*z1))*x3) (RatP.blk (q:=((0:Rat)+(((y2*z3)-(y3*z2))*x1))+(((y3*z1)-(y1*z3))*x2)) (H.o 5)) (anyV (H.o 5)) (anyV (H.o 10)) (Nat.le_trans (Nat.add_le_add k9 k13) (by decide))) ?_
 exact Run.rN (φ:=RatP (mn3 x1 x2 x3 y1 y2 y3 z1 z2 z3)) 5 (fun _ _ _ H=>⟨H.ow 5,VPe (φ:=RatP) (rfl) (H.o 5)⟩)
theorem acm1{w1_0 w1_1 w1_2 w1_3 w1_4 w1_5 w1_6 w1_7 w1_8 w1_9 w1_10 w1_11:Value}{b1:Nat}(x0 x1 x2 x3 y0 y1 y2 y3 z0 z1 z2 z3:Rat)(B1:W.heap[b1]? = some (.cells #[w1_0,w1_1,w1_2,w1_3,w1_4,w1_5,w1_6,w1_7,w1_8,w1_9,w1_10,w1_11] 282 (0,0)))(hw1_0:(RatP x0).p S w1_0 W)(hw1_1:(RatP x1).p S w1_1 W)(hw1_2:(RatP x2).p S w1_2 W)(hw1_3:(RatP x3).p S w1_3 W)(hw1_4:(RatP y0).p S w1_4 W)(hw1_5:(RatP y1).p S w1_5 W)(hw1_6:(RatP y2).p S w1_6 W)(hw1_7:(RatP y3).p S w1_7 W)(hw1_8:(RatP z0).p S w1_8 W)(hw1_9:(RatP z1).p S w1_9 W)(hw1_10:(RatP z2).p S w1_10 W)(hw1_11:(RatP z3).p S w1_11 W)(p0:ht x0+ht x1+ht x2+ht x3≤40000)(p1:ht y0+ht y1+ht y2+ht y3≤40000)(p2:ht z0+ht z1+ht z2+ht z3≤40000):Calls Tryz.prog 233 #[.int .i64 1,.pointer (some ⟨b1,0,none⟩)] W (Ret (RatP (-(mn3 x0 x2 x3 y0 y2 y3 z0 z2 z3))) Z0 W):=by
 obtain⟨ex0,ex1,ex2,ex3,ey0,ey1,ey2,ey3,ez0,ez1,ez2,ez3⟩:ht x0≤40000∧ht x1≤40000∧ht x2≤40000∧ht x3≤40000∧ht y0≤40000∧ht y1≤40000∧ht y2≤40000∧ht y3≤40000∧ht z0≤40000∧ht z1≤40000∧ht z2≤40000∧ht z3≤40000:=by omega
 have k0:=hb_mul ey2 ez3 80000
 have k1:=hb_mul ey3 ez2 80000
 have k2:=hb_sub k0 k1 160000
 have k3:=hb_mul k2 ex0 200000
 have k4:=hb_add (Nat.le_of_eq ht_zero) k3 200002
 have k5:=hb_mul ey3 ez0 80000
 have k6:=hb_mul ey0 ez3 80000
 have k7:=hb_sub k5 k6 160000
 have k8:=hb_mul k7 ex2 200000
 have k9:=hb_add k4 k8 400002
 have k10:=hb_mul ey0 ez2 80000
 have k11:=hb_mul ey2 ez0 80000
 have k12:=hb_sub k10 k11 160000
 have k13:=hb_mul k12 ex3 200000
 have k14:=hb_add k9 k13 600002
 have k15:=hb_neg k14
 refine Run.goP (S:=S) ((Pack.nil.k (.int .i64 1) [] (.s (.o (.c (.int .i64 1))))).bv B1 none 12 (AllF.rat hw1_0 (AllF.rat hw1_1 (AllF.rat hw1_2 (AllF.rat hw1_3 (AllF.rat hw1_4 (AllF.rat hw1_5 (AllF.rat hw1_6 (AllF.rat hw1_7 (AllF.rat hw1_8 (AllF.rat hw1_9 (AllF.rat hw1_10 (AllF.rat hw1_11 AllF.z))))))))))))) Tryz.func233 rfl ?_
 refine Run.a0 3 31 1 (fun cp1=>?_)
 refine Run.ap 31 2 1 cp1 3 (fun cp2=>?_)
 refine Run.ap 31 2 2 cp2 4 (fun cp3=>?_)
 refine Run.dr ?_
 refine RunD.en ?_
 refine Run.dr ?_
 refine RunD.cO 6 softRat (fun _ _ _ H=>qMul y2 z3 (RatP.blk (H.oz 6)) (anyV (H.f 6)) (anyV (H.f 11)) (Nat.le_trans (Nat.add_le_add ey2 ez3) (by decide))) ?_
 refine RunD.en ?_
 refine Run.dr ?_
 refine RunD.cO 7 softRat (fun _ _ _ H=>qMul y3 z2 (RatP.blk (H.oz 7)) (anyV (H.f 7)) (anyV (H.f 10)) (Nat.le_trans (Nat.add_le_add ey3 ez2) (by decide))) ?_
 refine RunD.cO 6 softRat (fun _ _ _ H=>qSub (y2*z3) (y3*z2) (RatP.blk (q:=y2*z3) (H.o 6)) (anyV (H.o 6)) (anyV (H.o 7)) (Nat.le_trans (Nat.add_le_add k0 k1) (by decide))) ?_
 refine RunD.en ?_
 refine Run.cO 6 softRat (fun _ _ _ H=>qMul ((y2*z3)-(y3*z2)) x0 (RatP.blk (q:=(y2*z3)-(y3*z2)) (H.o 6)) (anyV (H.o 6)) (anyV (H.f 0)) (Nat.le_trans (Nat.add_le_add k2 ex0) (by decide))) ?_
 refine Run.cO 5 softRat (fun _ _ _ H=>qAdd (0:Rat) (((y2*z3)-(y3*z2))*x0) (RatP.blk (H.oz 5)) (anyV (H.oz 5)) (anyV (H.o 6)) (Nat.le_trans (Nat.add_le_add (Nat.le_of_eq ht_zero) k3) (by decide))) ?_
 refine Run.dr ?_
 refine RunD.en ?_
 refine Run.dr ?_
 refine RunD.cO 8 softRat (fun _ _ _ H=>qMul y3 z0 (RatP.blk (H.oz 8)) (anyV (H.f 7)) (anyV (H.f 8)) (Nat.le_trans (Nat.add_le_add ey3 ez0) (by decide))) ?_
 refine RunD.en ?_
 refine Run.dr ?_
 refine RunD.cO 9 softRat (fun _ _ _ H=>qMul y0 z3 (RatP.blk (H.oz 9)) (anyV (H.f 4)) (anyV (H.f 11)) (Nat.le_trans (Nat.add_le_add ey0 ez3) (by decide))) ?_
 refine RunD.cO 8 softRat (fun _ _ _ H=>qSub (y3*z0) (y0*z3) (RatP.blk (q:=y3*z0) (H.o 8)) (anyV (H.o 8)) (anyV (H.o 9)) (Nat.le_trans (Nat.add_le_add k5 k6) (by decide))) ?_
 refine RunD.en ?_
 refine Run.cO 8 softRat (fun _ _ _ H=>qMul ((y3*z0)-(y0*z3)) x2 (RatP.blk (q:=(y3*z0)-(y0*z3)) (H.o 8)) (anyV (H.o 8)) (anyV (H.f 2)) (Nat.le_trans (Nat.add_le_add k7 ex2) (by decide))) ?_
 refine Run.cO 5 softRat (fun _ _ _ H=>qAdd ((0:Rat)+(((y2*z3)-(y3*z2))*x0)) (((y3*z0)-(y0*z3))*x2) (RatP.blk (q:=(0:Rat)+(((y2*z3)-(y3*z2))*x0)) (H.o 5)) (anyV (H.o 5)) (anyV (H.o 8)) (Nat.le_trans (Nat.add_le_add k4 k8) (by decide))) ?_
 refine Run.dr ?_
 refine RunD.en ?_
 refine Run.dr ?_
 refine RunD.cO 10 softRat (fun _ _ _ H=>qMul y0 z2 (RatP.blk (H.oz 10)) (anyV (H.f 4)) (anyV (H.f 10)) (Nat.le_trans (Nat.add_le_add ey0 ez2) (by decide))) ?_
 refine RunD.en ?_
 refine Run.dr ?_
 refine RunD.cO 11 softRat (fun _ _ _ H=>qMul y2 z0 (RatP.blk (H.oz 11)) (anyV (H.f 6)) (anyV (H.f 8)) (Nat.le_trans (Nat.add_le_add ey2 ez0) (by decide))) ?_
 refine RunD.cO 10 softRat (fun _ _ _ H=>qSub (y0*z2) (y2*z0) (RatP.blk (q:=y0*z2) (H.o 10)) (anyV (H.o 10)) (anyV (H.o 11)) (Nat.le_trans (Nat.add_le_add k10 k11) (by decide))) ?_
 refine RunD.en ?_
 refine Run.cO 10 softRat (fun _ _ _ H=>qMul ((y0*z2)-(y2*z0)) x3 (RatP.blk (q:=(y0*z2)-(y2*z0)) (H.o 10)) (anyV (H.o 10)) (anyV (H.f 3)) (Nat.le_trans (Nat.add_le_add k12 ex3) (by decide))) ?_
 refine Run.cO 5 softRat (fun _ _ _ H=>qAdd (((0:Rat)+(((y2*z3)-(y3*z2))*x0))+(((y3*z0)-(y0*z3))*x2)) (((y0*z2)-(y2*z0))*x3) (RatP.blk (q:=((0:Rat)+(((y2*z3)-(y3*z2))*x0))+(((y3*z0)-(y0*z3))*x2)) (H.o 5)) (anyV (H.o 5)) (anyV (H.o 10)) (Nat.le_trans (Nat.add_le_add k9 k13) (by decide))) ?_
 refine Run.cO 5 softRat (fun _ _ _ H=>qNeg ((((0:Rat)+(((y2*z3)-(y3*z2))*x0))+(((y3*z0)-(y0*z3))*x2))+(((y0*z2)-(y2*z0))*x3)) (RatP.blk (q:=(((0:Rat)+(((y2*z3)-(y3*z2))*x0))+(((y3*z0)-(y0*z3))*x2))+(((y0*z2)-(y2*z0))*x3)) (H.o 5)) (anyV (H.o 5)) (Nat.le_trans k14 (by decide))) ?_
 exact Run.rN (φ:=RatP (-(mn3 x0 x2 x3 y0 y2 y3 z0 z2 z3))) 5 (fun _ _ _ H=>⟨H.ow 5,VPe (φ:=RatP) (rfl) (H.o 5)⟩)
theorem acm2{w1_0 w1_1 w1_2 w1_3 w1_4 w1_5 w1_6 w1_7 w1_8 w1_9 w1_10 w1_11:Value}{b1:Nat}(x0 x1 x2 x3 y0 y1 y2 y3 z0 z1 z2 z3:Rat)(B1:W.heap[b1]? = some (.cells #[w1_0,w1_1,w1_2,w1_3,w1_4,w1_5,w1_6,w1_7,w1_8,w1_9,w1_10,w1_11] 282 (0,0)))(hw1_0:(RatP x0).p S w1_0 W)(hw1_1:(RatP x1).p S w1_1 W)(hw1_2:(RatP x2).p S w1_2 W)(hw1_3:(RatP x3).p S w1_3 W)(hw1_4:(RatP y0).p S w1_4 W)(hw1_5:(RatP y1).p S w1_5 W)(hw1_6:(RatP y2).p S w1_6 W)(hw1_7:(RatP y3).p S w1_7 W)(hw1_8:(RatP z0).p S w1_8 W)(hw1_9:(RatP z1).p S w1_9 W)(hw1_10:(RatP z2).p S w1_10 W)(hw1_11:(RatP z3).p S w1_11 W)(p0:ht x0+ht x1+ht x2+ht x3≤40000)(p1:ht y0+ht y1+ht y2+ht y3≤40000)(p2:ht z0+ht z1+ht z2+ht z3≤40000):Calls Tryz.prog 233 #[.int .i64 2,.pointer (some ⟨b1,0,none⟩)] W (Ret (RatP (mn3 x0 x1 x3 y0 y1 y3 z0 z1 z3)) Z0 W):=by
 obtain⟨ex0,ex1,ex2,ex3,ey0,ey1,ey2,ey3,ez0,ez1,ez2,ez3⟩:ht x0≤40000∧ht x1≤40000∧ht x2≤40000∧ht x3≤40000∧ht y0≤40000∧ht y1≤40000∧ht y2≤40000∧ht y3≤40000∧ht z0≤40000∧ht z1≤40000∧ht z2≤40000∧ht z3≤40000:=by omega
 have k0:=hb_mul ey1 ez3 80000
 have k1:=hb_mul ey3 ez1 80000
 have k2:=hb_sub k0 k1 160000
 have k3:=hb_mul k2 ex0 200000
 have k4:=hb_add (Nat.le_of_eq ht_zero) k3 200002
 have k5:=hb_mul ey3 ez0 80000
 have k6:=hb_mul ey0 ez3 80000
 have k7:=hb_sub k5 k6 160000
 have k8:=hb_mul k7 ex1 200000
 have k9:=hb_add k4 k8 400002
 have k10:=hb_mul ey0 ez1 80000
 have k11:=hb_mul ey1 ez0 80000
 have k12:=hb_sub k10 k11 160000
 have k13:=hb_mul k12 ex3 200000
 have k14:=hb_add k9 k13 600002
 refine Run.goP (S:=S) ((Pack.nil.k (.int .i64 2) [] (.s (.o (.c (.int .i64 2))))).bv B1 none 12 (AllF.rat hw1_0 (AllF.rat hw1_1 (AllF.rat hw1_2 (AllF.rat hw1_3 (AllF.rat hw1_4 (AllF.rat hw1_5 (AllF.rat hw1_6 (AllF.rat hw1_7 (AllF.rat hw1_8 (AllF.rat hw1_9 (AllF.rat hw1_10 (AllF.rat hw1_11 AllF.z))))))))))))) Tryz.func233 rfl ?_
 refine Run.a0 3 31 1 (fun cp1=>?_)
 refine Run.ap 31 2 1 cp1 3 (fun cp2=>?_)
 refine Run.ap 31 2 2 cp2 4 (fun cp3=>?_)
 refine Run.dr ?_
 refine RunD.en ?_
 refine Run.dr ?_
 refine RunD.cO 6 softRat (fun _ _ _ H=>qMul y1 z3 (RatP.blk (H.oz 6)) (anyV (H.f 5)) (anyV (H.f 11)) (Nat.le_trans (Nat.add_le_add ey1 ez3) (by decide))) ?_
 refine RunD.en ?_
 refine Run.dr ?_
 refine RunD.cO 7 softRat (fun _ _ _ H=>qMul y3 z1 (RatP.blk (H.oz 7)) (anyV (H.f 7)) (anyV (H.f 9)) (Nat.le_trans (Nat.add_le_add ey3 ez1) (by decide))) ?_
 refine RunD.cO 6 softRat (fun _ _ _ H=>qSub (y1*z3) (y3*z1) (RatP.blk (q:=y1*z3) (H.o 6)) (anyV (H.o 6)) (anyV (H.o 7)) (Nat.le_trans (Nat.add_le_add k0 k1) (by decide))) ?_
 refine RunD.en ?_
 refine Run.cO 6 softRat (fun _ _ _ H=>qMul ((y1*z3)-(y3*z1)) x0 (RatP.blk (q:=(y1*z3)-(y3*z1)) (H.o 6)) (anyV (H.o 6)) (anyV (H.f 0)) (Nat.le_trans (Nat.add_le_add k2 ex0) (by decide))) ?_
 refine Run.cO 5 softRat (fun _ _ _ H=>qAdd (0:Rat) (((y1*z3)-(y3*z1))*x0) (RatP.blk (H.oz 5)) (anyV (H.oz 5)) (anyV (H.o 6)) (Nat.le_trans (Nat.add_le_add (Nat.le_of_eq ht_zero) k3) (by decide))) ?_
 refine Run.dr ?_
 refine RunD.en ?_
 refine Run.dr ?_
 refine RunD.cO 8 softRat (fun _ _ _ H=>qMul y3 z0 (RatP.blk (H.oz 8)) (anyV (H.f 7)) (anyV (H.f 8)) (Nat.le_trans (Nat.add_le_add ey3 ez0) (by decide))) ?_
 refine RunD.en ?_
 refine Run.dr ?_
 refine RunD.cO 9 softRat (fun _ _ _ H=>qMul y0 z3 (RatP.blk (H.oz 9)) (anyV (H.f 4)) (anyV (H.f 11)) (Nat.le_trans (Nat.add_le_add ey0 ez3) (by decide))) ?_
 refine RunD.cO 8 softRat (fun _ _ _ H=>qSub (y3*z0) (y0*z3) (RatP.blk (q:=y3*z0) (H.o 8)) (anyV (H.o 8)) (anyV (H.o 9)) (Nat.le_trans (Nat.add_le_add k5 k6) (by decide))) ?_
 refine RunD.en ?_
 refine Run.cO 8 softRat (fun _ _ _ H=>qMul ((y3*z0)-(y0*z3)) x1 (RatP.blk (q:=(y3*z0)-(y0*z3)) (H.o 8)) (anyV (H.o 8)) (anyV (H.f 1)) (Nat.le_trans (Nat.add_le_add k7 ex1) (by decide))) ?_
 refine Run.cO 5 softRat (fun _ _ _ H=>qAdd ((0:Rat)+(((y1*z3)-(y3*z1))*x0)) (((y3*z0)-(y0*z3))*x1) (RatP.blk (q:=(0:Rat)+(((y1*z3)-(y3*z1))*x0)) (H.o 5)) (anyV (H.o 5)) (anyV (H.o 8)) (Nat.le_trans (Nat.add_le_add k4 k8) (by decide))) ?_
 refine Run.dr ?_
 refine RunD.en ?_
 refine Run.dr ?_
 refine RunD.cO 10 softRat (fun _ _ _ H=>qMul y0 z1 (RatP.blk (H.oz 10)) (anyV (H.f 4)) (anyV (H.f 9)) (Nat.le_trans (Nat.add_le_add ey0 ez1) (by decide))) ?_
 refine RunD.en ?_
 refine Run.dr ?_
 refine RunD.cO 11 softRat (fun _ _ _ H=>qMul y1 z0 (RatP.blk (H.oz 11)) (anyV (H.f 5)) (anyV (H.f 8)) (Nat.le_trans (Nat.add_le_add ey1 ez0) (by decide))) ?_
 refine RunD.cO 10 softRat (fun _ _ _ H=>qSub (y0*z1) (y1*z0) (RatP.blk (q:=y0*z1) (H.o 10)) (anyV (H.o 10)) (anyV (H.o 11)) (Nat.le_trans (Nat.add_le_add k10 k11) (by decide))) ?_
 refine RunD.en ?_
 refine Run.cO 10 softRat (fun _ _ _ H=>qMul ((y0*z1)-(y1*z0)) x3 (RatP.blk (q:=(y0*z1)-(y1*z0)) (H.o 10)) (anyV (H.o 10)) (anyV (H.f 3)) (Nat.le_trans (Nat.add_le_add k12 ex3) (by decide))) ?_
 refine Run.cO 5 softRat (fun _ _ _ H=>qAdd (((0:Rat)+(((y1*z3)-(y3*z1))*x0))+(((y3*z0)-(y0*z3))*x1)) (((y0*z1)-(y1*z0))*x3) (RatP.blk (q:=((0:Rat)+(((y1*z3)-(y3*z1))*x0))+(((y3*z0)-(y0*z3))*x1)) (H.o 5)) (anyV (H.o 5)) (anyV (H.o 10)) (Nat.le_trans (Nat.add_le_add k9 k13) (by decide))) ?_
 exact Run.rN (φ:=RatP (mn3 x0 x1 x3 y0 y1 y3 z0 z1 z3)) 5 (fun _ _ _ H=>⟨H.ow 5,VPe (φ:=RatP) (rfl) (H.o 5)⟩)
theorem acm3{w1_0 w1_1 w1_2 w1_3 w1_4 w1_5 w1_6 w1_7 w1_8 w1_9 w1_10 w1_11:Value}{b1:Nat}(x0 x1 x2 x3 y0 y1 y2 y3 z0 z1 z2 z3:Rat)(B1:W.heap[b1]? = some (.cells #[w1_0,w1_1,w1_2,w1_3,w1_4,w1_5,w1_6,w1_7,w1_8,w1_9,w1_10,w1_11] 282 (0,0)))(hw1_0:(RatP x0).p S w1_0 W)(hw1_1:(RatP x1).p S w1_1 W)(hw1_2:(RatP x2).p S w1_2 W)(hw1_3:(RatP x3).p S w1_3 W)(hw1_4:(RatP y0).p S w1_4 W)(hw1_5:(RatP y1).p S w1_5 W)(hw1_6:(RatP y2).p S w1_6 W)(hw1_7:(RatP y3).p S w1_7 W)(hw1_8:(RatP z0).p S w1_8 W)(hw1_9:(RatP z1).p S w1_9 W)(hw1_10:(RatP z2).p S w1_10 W)(hw1_11:(RatP z3).p S w1_11 W)(p0:ht x0+ht x1+ht x2+ht x3≤40000)(p1:ht y0+ht y1+ht y2+ht y3≤40000)(p2:ht z0+ht z1+ht z2+ht z3≤40000):Calls Tryz.prog 233 #[.int .i64 3,.pointer (some ⟨b1,0,none⟩)] W (Ret (RatP (-(mn3 x0 x1 x2 y0 y1 y2 z0 z1 z2))) Z0 W):=by
 obtain⟨ex0,ex1,ex2,ex3,ey0,ey1,ey2,ey3,ez0,ez1,ez2,ez3⟩:ht x0≤40000∧ht x1≤40000∧ht x2≤40000∧ht x3≤40000∧ht y0≤40000∧ht y1≤40000∧ht y2≤40000∧ht y3≤40000∧ht z0≤40000∧ht z1≤40000∧ht z2≤40000∧ht z3≤40000:=by omega
 have k0:=hb_mul ey1 ez2 80000
 have k1:=hb_mul ey2 ez1 80000
 have k2:=hb_sub k0 k1 160000
 have k3:=hb_mul k2 ex0 200000
 have k4:=hb_add (Nat.le_of_eq ht_zero) k3 200002
 have k5:=hb_mul ey2 ez0 80000
 have k6:=hb_mul ey0 ez2 80000
 have k7:=hb_sub k5 k6 160000
 have k8:=hb_mul k7 ex1 200000
 have k9:=hb_add k4 k8 400002
 have k10:=hb_mul ey0 ez1 80000
 have k11:=hb_mul ey1 ez0 80000
 have k12:=hb_sub k10 k11 160000
 have k13:=hb_mul k12 ex2 200000
 have k14:=hb_add k9 k13 600002
 have k15:=hb_neg k14
 refine Run.goP (S:=S) ((Pack.nil.k (.int .i64 3) [] (.s (.o (.c (.int .i64 3))))).bv B1 none 12 (AllF.rat hw1_0 (AllF.rat hw1_1 (AllF.rat hw1_2 (AllF.rat hw1_3 (AllF.rat hw1_4 (AllF.rat hw1_5 (AllF.rat hw1_6 (AllF.rat hw1_7 (AllF.rat hw1_8 (AllF.rat hw1_9 (AllF.rat hw1_10 (AllF.rat hw1_11 AllF.z))))))))))))) Tryz.func233 rfl ?_
 refine Run.a0 3 31 1 (fun cp1=>?_)
 refine Run.ap 31 2 1 cp1 3 (fun cp2=>?_)
 refine Run.ap 31 2 2 cp2 4 (fun cp3=>?_)
 refine Run.dr ?_
 refine RunD.en ?_
 refine Run.dr ?_
 refine RunD.cO 6 softRat (fun _ _ _ H=>qMul y1 z2 (RatP.blk (H.oz 6)) (anyV (H.f 5)) (anyV (H.f 10)) (Nat.le_trans (Nat.add_le_add ey1 ez2) (by decide))) ?_
 refine RunD.en ?_
 refine Run.dr ?_
 refine RunD.cO 7 softRat (fun _ _ _ H=>qMul y2 z1 (RatP.blk (H.oz 7)) (anyV (H.f 6)) (anyV (H.f 9)) (Nat.le_trans (Nat.add_le_add ey2 ez1) (by decide))) ?_
 refine RunD.cO 6 softRat (fun _ _ _ H=>qSub (y1*z2) (y2*z1) (RatP.blk (q:=y1*z2) (H.o 6)) (anyV (H.o 6)) (anyV (H.o 7)) (Nat.le_trans (Nat.add_le_add k0 k1) (by decide))) ?_
 refine RunD.en ?_
 refine Run.cO 6 softRat (fun _ _ _ H=>qMul ((y1*z2)-(y2*z1)) x0 (RatP.blk (q:=(y1*z2)-(y2*z1)) (H.o 6)) (anyV (H.o 6)) (anyV (H.f 0)) (Nat.le_trans (Nat.add_le_add k2 ex0) (by decide))) ?_
 refine Run.cO 5 softRat (fun _ _ _ H=>qAdd (0:Rat) (((y1*z2)-(y2*z1))*x0) (RatP.blk (H.oz 5)) (anyV (H.oz 5)) (anyV (H.o 6)) (Nat.le_trans (Nat.add_le_add (Nat.le_of_eq ht_zero) k3) (by decide))) ?_
 refine Run.dr ?_
 refine RunD.en ?_
 refine Run.dr ?_
 refine RunD.cO 8 softRat (fun _ _ _ H=>qMul y2 z0 (RatP.blk (H.oz 8)) (anyV (H.f 6)) (anyV (H.f 8)) (Nat.le_trans (Nat.add_le_add ey2 ez0) (by decide))) ?_
 refine RunD.en ?_
 refine Run.dr ?_
 refine RunD.cO 9 softRat (fun _ _ _ H=>qMul y0 z2 (RatP.blk (H.oz 9)) (anyV (H.f 4)) (anyV (H.f 10)) (Nat.le_trans (Nat.add_le_add ey0 ez2) (by decide))) ?_
 refine RunD.cO 8 softRat (fun _ _ _ H=>qSub (y2*z0) (y0*z2) (RatP.blk (q:=y2*z0) (H.o 8)) (anyV (H.o 8)) (anyV (H.o 9)) (Nat.le_trans (Nat.add_le_add k5 k6) (by decide))) ?_
 refine RunD.en ?_
 refine Run.cO 8 softRat (fun _ _ _ H=>qMul ((y2*z0)-(y0*z2)) x1 (RatP.blk (q:=(y2*z0)-(y0*z2)) (H.o 8)) (anyV (H.o 8)) (anyV (H.f 1)) (Nat.le_trans (Nat.add_le_add k7 ex1) (by decide))) ?_
 refine Run.cO 5 softRat (fun _ _ _ H=>qAdd ((0:Rat)+(((y1*z2)-(y2*z1))*x0)) (((y2*z0)-(y0*z2))*x1) (RatP.blk (q:=(0:Rat)+(((y1*z2)-(y2*z1))*x0)) (H.o 5)) (anyV (H.o 5)) (anyV (H.o 8)) (Nat.le_trans (Nat.add_le_add k4 k8) (by decide))) ?_
 refine Run.dr ?_
 refine RunD.en ?_
 refine Run.dr ?_
 refine RunD.cO 10 softRat (fun _ _ _ H=>qMul y0 z1 (RatP.blk (H.oz 10)) (anyV (H.f 4)) (anyV (H.f 9)) (Nat.le_trans (Nat.add_le_add ey0 ez1) (by decide))) ?_
 refine RunD.en ?_
 refine Run.dr ?_
 refine RunD.cO 11 softRat (fun _ _ _ H=>qMul y1 z0 (RatP.blk (H.oz 11)) (anyV (H.f 5)) (anyV (H.f 8)) (Nat.le_trans (Nat.add_le_add ey1 ez0) (by decide))) ?_
 refine RunD.cO 10 softRat (fun _ _ _ H=>qSub (y0*z1) (y1*z0) (RatP.blk (q:=y0*z1) (H.o 10)) (anyV (H.o 10)) (anyV (H.o 11)) (Nat.le_trans (Nat.add_le_add k10 k11) (by decide))) ?_
 refine RunD.en ?_
 refine Run.cO 10 softRat (fun _ _ _ H=>qMul ((y0*z1)-(y1*z0)) x2 (RatP.blk (q:=(y0*z1)-(y1*z0)) (H.o 10)) (anyV (H.o 10)) (anyV (H.f 2)) (Nat.le_trans (Nat.add_le_add k12 ex2) (by decide))) ?_
 refine Run.cO 5 softRat (fun _ _ _ H=>qAdd (((0:Rat)+(((y1*z2)-(y2*z1))*x0))+(((y2*z0)-(y0*z2))*x1)) (((y0*z1)-(y1*z0))*x2) (RatP.blk (q:=((0:Rat)+(((y1*z2)-(y2*z1))*x0))+(((y2*z0)-(y0*z2))*x1)) (H.o 5)) (anyV (H.o 5)) (anyV (H.o 10)) (Nat.le_trans (Nat.add_le_add k9 k13) (by decide))) ?_
 refine Run.cO 5 softRat (fun _ _ _ H=>qNeg ((((0:Rat)+(((y1*z2)-(y2*z1))*x0))+(((y2*z0)-(y0*z2))*x1))+(((y0*z1)-(y1*z0))*x2)) (RatP.blk (q:=(((0:Rat)+(((y1*z2)-(y2*z1))*x0))+(((y2*z0)-(y0*z2))*x1))+(((y0*z1)-(y1*z0))*x2)) (H.o 5)) (anyV (H.o 5)) (Nat.le_trans k14 (by decide))) ?_
 exact Run.rN (φ:=RatP (-(mn3 x0 x1 x2 y0 y1 y2 z0 z1 z2))) 5 (fun _ _ _ H=>⟨H.ow 5,VPe (φ:=RatP) (rfl) (H.o 5)⟩)
theorem acr{w0_0 w0_1 w0_2 w0_3 w0_4 w0_5 w0_6 w0_7 w0_8 w0_9 w0_10 w0_11:Value}{b0:Nat}(n0:Nat)(d0 d1 d2:Ci)(B0:∃ r:List Value,W.heap[b0]? = some (.cells ⟨[w0_0,w0_1,w0_2,w0_3,w0_4,w0_5,w0_6,w0_7,w0_8,w0_9,w0_10,w0_11]++r⟩ 147 (0,0)))(t0_0:(RingP d0).p S (.agg #[w0_0,w0_1,w0_2,w0_3]) W)(t0_1:(RingP d1).p S (.agg #[w0_4,w0_5,w0_6,w0_7]) W)(t0_2:(RingP d2).p S (.agg #[w0_8,w0_9,w0_10,w0_11]) W)(p0:ht d0.a+ht d0.b.re+ht d0.b.im+ht d0.c≤40000)(p1:ht d1.a+ht d1.b.re+ht d1.b.im+ht d1.c≤40000)(p2:ht d2.a+ht d2.b.re+ht d2.b.im+ht d2.c≤40000):Calls Tryz.prog 107 #[.slice (some ⟨b0,0,none⟩) 3 (n0+3)] W (Ret (RingP (Ci.acr d0 d1 d2)) S W):=by
 obtain⟨ead0,ebd0,ecd0⟩:=hb_ci p0
 obtain⟨ead1,ebd1,ecd1⟩:=hb_ci p1
 obtain⟨ead2,ebd2,ecd2⟩:=hb_ci p2
 have k0:=mn3_hb ead0 ecd0 ebd0.2 ead1 ecd1 ebd1.2 ead2 ecd2 ebd2.2
 have k1:=hb_neg (mn3_hb ead0 ecd0 ebd0.1 ead1 ecd1 ebd1.1 ead2 ecd2 ebd2.1)
 have k2:=HB.mul (HB.two (z:=Cx.mk (- (mn3 d0.a d0.c d0.b.re d1.a d1.c d1.b.re d2.a d2.c d2.b.re)) 0) k1 (Nat.le_of_eq ht_zero) 600002) (⟨by decide,by decide⟩:HB (Cx.ofInt 0 1) 3) 1200010
 have k3:=HB.add (HB.two (z:=Cx.mk (mn3 d0.a d0.c d0.b.im d1.a d1.c d1.b.im d2.a d2.c d2.b.im) 0) k0 (Nat.le_of_eq ht_zero) 600002) k2 1800012
 have k4:=hb_neg (mn3_hb ead0 ebd0.1 ebd0.2 ead1 ebd1.1 ebd1.2 ead2 ebd2.1 ebd2.2)
 have k5:=HB.scale k3 (by decide:ht (Rat.divInt (-1) (2))≤4) 1800016
 have k6:=mn3_hb ecd0 ebd0.1 ebd0.2 ecd1 ebd1.1 ebd1.2 ecd2 ebd2.1 ebd2.2
 refine Run.goP (S:=S) (Pack.nil.bm B0 3 (n0+3) 12 (AllF.app (ringCells t0_0) (AllF.app (ringCells t0_1) (ringCells t0_2)))) Tryz.func107 rfl ?_
 refine Run.cR sp2Rat (fun _ _ _ H=>eParts d0.b (NumP.mk (H.f 1) (H.f 2))) ?_
 refine Run.cR sp2Rat (fun _ _ _ H=>eParts d1.b (NumP.mk (H.f 5) (H.f 6))) ?_
 refine Run.cR sp2Rat (fun _ _ _ H=>eParts d2.b (NumP.mk (H.f 9) (H.f 10))) ?_
 refine Run.cR spRat (fun _ _ _ H=>qNewRat (-1) 2 (by decide) (by decide) (by decide) (by decide) (by decide)) ?_
 refine Run.cR spRat (fun _ _ _ H=>retZ (acm2 d0.a d0.c d0.b.re d0.b.im d1.a d1.c d1.b.re d1.b.im d2.a d2.c d2.b.re d2.b.im (H.b 2) (H.f 0) (H.f 3) (H.f 12) (H.f 13) (H.f 4) (H.f 7) (H.f 14) (H.f 15) (H.f 8) (H.f 11) (H.f 16) (H.f 17) (by omega) (by omega) (by omega))) ?_
 refine Run.cR spRat (fun _ _ _ H=>retZ (acm3 d0.a d0.c d0.b.re d0.b.im d1.a d1.c d1.b.re d1.b.im d2.a d2.c d2.b.re d2.b.im (H.b 2) (H.f 0) (H.f 3) (H.f 12) (H.f 13) (H.f 4) (H.f 7) (H.f 14) (H.f 15) (H.f 8) (H.f 11) (H.f 16) (H.f 17) (by omega) (by omega) (by omega))) ?_
 refine Run.cR spNum (fun _ _ _ H=>eReal (mn3 d0.a d0.c d0.b.im d1.a d1.c d1.b.im d2.a d2.c d2.b.im) (H.f 19)) ?_
 refine Run.cR spNum (fun _ _ _ H=>eReal (-(mn3 d0.a d0.c d0.b.re d1.a d1.c d1.b.re d2.a d2.c d2.b.re)) (H.f 20)) ?_
 refine Run.cR spNum (fun _ _ _ H=>eInt 0 1 (by decide) (by decide) (by decide) (by decide)) ?_
 refine Run.cR spNum (fun _ _ _ H=>eNMul (Cx.mk (-(mn3 d0.a d0.c d0.b.re d1.a d1.c d1.b.re d2.a d2.c d2.b.re)) 0) (Cx.ofInt 0 1) (NumP.mk (H.f 23) (H.f 24)) (NumP.mk (H.f 25) (H.f 26)) (Nat.le_trans (Nat.add_le_add (Nat.add_le_add (Nat.add_le_add k1 (Nat.le_of_eq ht_zero)) (⟨by decide,by decide⟩:HB (Cx.ofInt 0 1) 3).1) (⟨by decide,by decide⟩:HB (Cx.ofInt 0 1) 3).2) (by decide))) ?_
 refine Run.cR spNum (fun _ _ _ H=>eAdd (Cx.mk (mn3 d0.a d0.c d0.b.im d1.a d1.c d1.b.im d2.a d2.c d2.b.im) 0) ((Cx.mk (-(mn3 d0.a d0.c d0.b.re d1.a d1.c d1.b.re d2.a d2.c d2.b.re)) 0).mul (Cx.ofInt 0 1)) (NumP.mk (H.f 21) (H.f 22)) (NumP.mk (H.f 27) (H.f 28)) (Nat.le_trans (Nat.add_le_add (Nat.add_le_add (Nat.add_le_add k0 (Nat.le_of_eq ht_zero)) k2.1) k2.2) (by decide))) ?_
 refine Run.dr ?_
 refine RunD.cR spRat (fun _ _ _ H=>retZ (acm1 d0.a d0.c d0.b.re d0.b.im d1.a d1.c d1.b.re d1.b.im d2.a d2.c d2.b.re d2.b.im (H.b 2) (H.f 0) (H.f 3) (H.f 12) (H.f 13) (H.f 4) (H.f 7) (H.f 14) (H.f 15) (H.f 8) (H.f 11) (H.f 16) (H.f 17) (by omega) (by omega) (by omega))) ?_
 refine RunD.cR spNum (fun _ _ _ H=>eScale ((Cx.mk (mn3 d0.a d0.c d0.b.im d1.a d1.c d1.b.im d2.a d2.c d2.b.im) 0).add ((Cx.mk (-(mn3 d0.a d0.c d0.b.re d1.a d1.c d1.b.re d2.a d2.c d2.b.re)) 0).mul (Cx.ofInt 0 1))) (Rat.divInt (-1) 2) (NumP.mk (H.f 29) (H.f 30)) (RatP.n (H.f 18)) (Nat.le_trans (Nat.add_le_add (Nat.add_le_add k3.1 k3.2) (by decide:ht (Rat.divInt (-1) (2))≤4)) (by decide))) ?_
 refine RunD.cR spRat (fun _ _ _ H=>retZ (acm0 d0.a d0.c d0.b.re d0.b.im d1.a d1.c d1.b.re d1.b.im d2.a d2.c d2.b.re d2.b.im (H.b 2) (H.f 0) (H.f 3) (H.f 12) (H.f 13) (H.f 4) (H.f 7) (H.f 14) (H.f 15) (H.f 8) (H.f 11) (H.f 16) (H.f 17) (by omega) (by omega) (by omega))) ?_
 refine RunD.en ?_
 exact Run.rR (fun _ _ _ H=>VPe (φ:=RingP) (rfl) (RingP.mk (H.f 31) (H.f 32) (H.f 33) (H.f 34)))
theorem ahd{v0 v1:Value}(a b:Ci)(t0:(RingP a).p S v0 W)(t1:(RingP b).p S v1 W)(p0:ht a.a+ht a.b.re+ht a.b.im+ht a.c+(ht b.a+ht b.b.re+ht b.b.im+ht b.c)≤67108000):Calls Tryz.prog 109 #[v0,v1] W (RetV (.bool (a.ahd b)) W):=by
 have k0:=hc_sub a.b b.b
 refine Run.goP (S:=S) ((Pack.nil.s spRing t0).s spRing t1) Tryz.func109 rfl ?_
 refine Run.cR spNum (fun _ _ _ H=>eSub a.b b.b (NumP.mk (H.f 1) (H.f 2)) (NumP.mk (H.f 5) (H.f 6)) (by omega)) ?_
 refine Run.cR sp2Rat (fun _ _ _ H=>eParts (a.b.sub b.b) (NumP.mk (H.f 8) (H.f 9))) ?_
 refine Run.dr ?_
 refine RunD.cV [.int .i64 (icmp (a.a.num*(b.a.den:Int)) (b.a.num*(a.a.den:Int)))] kb (fun _ _ _ H=>qCmp a.a b.a (H.f 0) (H.f 4) (by omega)) ?_
 refine RunD.un (icmp (a.a.num*(b.a.den:Int)) (b.a.num*(a.a.den:Int))) (wneg _ _) ?_
 refine RunD.cV [.int .i64 (((a.b.sub b.b).re).num.sign)] kb (fun _ _ _ H=>qSign ((a.b.sub b.b).re) (H.f 10)) ?_
 refine RunD.cV [.int .i64 (((a.b.sub b.b).im).num.sign)] kb (fun _ _ _ H=>qSign ((a.b.sub b.b).im) (H.f 11)) ?_
 refine RunD.cV [.int .i64 (icmp (a.c.num*(b.c.den:Int)) (b.c.num*(a.c.den:Int)))] kb (fun _ _ _ H=>qCmp a.c b.c (H.f 3) (H.f 7) (by omega)) ?_
 refine RunD.en ?_
 refine Run.ic (-(icmp (a.a.num*(b.a.den:Int)) (b.a.num*(a.a.den:Int)))) 0 ((-(icmp (a.a.num*(b.a.den:Int)) (b.a.num*(a.a.den:Int)))) != 0) ?_
 refine (Bool.eq_false_or_eq_true ((-(icmp (a.a.num*(b.a.den:Int)) (b.a.num*(a.a.den:Int)))) != 0)).elim (fun c1=>?_) (fun c1=>?_)
 · refine Run.kn c1 ?_
   refine Run.ic (-(icmp (a.a.num*(b.a.den:Int)) (b.a.num*(a.a.den:Int)))) 0 (decide ((-(icmp (a.a.num*(b.a.den:Int)) (b.a.num*(a.a.den:Int))))<0)) ?_
   exact Run.rV (V' := .bool (decide ((-(icmp (a.a.num*(b.a.den:Int)) (b.a.num*(a.a.den:Int))))<0))) ((congrArg Value.bool (by simp [Ci.ahd,fstN,c1])))
 · refine Run.kn c1 ?_
   refine Run.ic (((a.b.sub b.b).re).num.sign) 0 ((((a.b.sub b.b).re).num.sign) != 0) ?_
   refine (Bool.eq_false_or_eq_true ((((a.b.sub b.b).re).num.sign) != 0)).elim (fun c2=>?_) (fun c2=>?_)
   · refine Run.kn c2 ?_
     refine Run.ic (((a.b.sub b.b).re).num.sign) 0 (decide ((((a.b.sub b.b).re).num.sign)<0)) ?_
     exact Run.rV (V' := .bool (decide ((((a.b.sub b.b).re).num.sign)<0))) ((congrArg Value.bool (by simp [Ci.ahd,fstN,c1,c2])))
   · refine Run.kn c2 ?_
     refine Run.ic (((a.b.sub b.b).im).num.sign) 0 ((((a.b.sub b.b).im).num.sign) != 0) ?_
     refine (Bool.eq_false_or_eq_true ((((a.b.sub b.b).im).num.sign) != 0)).elim (fun c3=>?_) (fun c3=>?_)
     · refine Run.kn c3 ?_
       refine Run.ic (((a.b.sub b.b).im).num.sign) 0 (decide ((((a.b.sub b.b).im).num.sign)<0)) ?_
       exact Run.rV (V' := .bool (decide ((((a.b.sub b.b).im).num.sign)<0))) ((congrArg Value.bool (by simp [Ci.ahd,fstN,c1,c2,c3])))
     · refine Run.kn c3 ?_
       refine Run.ic (icmp (a.c.num*(b.c.den:Int)) (b.c.num*(a.c.den:Int))) 0 ((icmp (a.c.num*(b.c.den:Int)) (b.c.num*(a.c.den:Int))) != 0) ?_
       refine (Bool.eq_false_or_eq_true ((icmp (a.c.num*(b.c.den:Int)) (b.c.num*(a.c.den:Int))) != 0)).elim (fun c4=>?_) (fun c4=>?_)
       · refine Run.kn c4 ?_
         refine Run.ic (icmp (a.c.num*(b.c.den:Int)) (b.c.num*(a.c.den:Int))) 0 (decide ((icmp (a.c.num*(b.c.den:Int)) (b.c.num*(a.c.den:Int)))<0)) ?_
         exact Run.rV (V' := .bool (decide ((icmp (a.c.num*(b.c.den:Int)) (b.c.num*(a.c.den:Int)))<0))) ((congrArg Value.bool (by simp [Ci.ahd,fstN,c1,c2,c3,c4])))
       · refine Run.kn c4 ?_
         exact Run.rV (V' := .bool false) ((congrArg Value.bool (by simp [Ci.ahd,fstN,c1,c2,c3,c4])))
theorem fo0(a b c:RCi)(p0:dsOk a=false):Calls Tryz.prog 24 #[rciV a,rciV b,rciV c] W (RetV (.tuple #[rciV rzCi,rciV rzCi,.int .i64 2]) W):=by
 refine Run.goP (S:=Z0) (((Pack.nil.k (rciV a) (rciC a).toList (.s (.agg (ks 0 16)))).k (rciV b) (rciC b).toList (.s (.agg (ks 0 16)))).k (rciV c) (rciC c).toList (.s (.agg (ks 0 16)))) Tryz.func24 rfl ?_
 refine Run.cV [] (.tup [.o (.c (.slice none 0 0)),.o (.c (.bool false))]) (fun _ _ _ H=>pl30 29 a b c (H.b 5) p0) ?_
 exact Run.rV rfl
theorem fo1(a:Ci)(b c:RCi)(p0:dsOk (rci a)=true)(p1:dsOk b=false):Calls Tryz.prog 24 #[ciV a,rciV b,rciV c] W (RetV (.tuple #[rciV rzCi,rciV rzCi,.int .i64 2]) W):=by
 refine Run.goP (S:=Z0) (((Pack.nil.k (ciV a) (ciC a).toList (.s (.agg (ks 0 16)))).k (rciV b) (rciC b).toList (.s (.agg (ks 0 16)))).k (rciV c) (rciC c).toList (.s (.agg (ks 0 16)))) Tryz.func24 rfl ?_
 refine Run.cV [] (.tup [.o (.c (.slice none 0 0)),.o (.c (.bool false))]) (fun _ _ _ H=>pl31 29 a b c (H.b 5) p0 p1) ?_
 exact Run.rV rfl
theorem fo2(a b:Ci)(c:RCi)(p0:dsOk (rci a)=true)(p1:dsOk (rci b)=true)(p2:dsOk c=false):Calls Tryz.prog 24 #[ciV a,ciV b,rciV c] W (RetV (.tuple #[rciV rzCi,rciV rzCi,.int .i64 2]) W):=by
 refine Run.goP (S:=Z0) (((Pack.nil.k (ciV a) (ciC a).toList (.s (.agg (ks 0 16)))).k (ciV b) (ciC b).toList (.s (.agg (ks 0 16)))).k (rciV c) (rciC c).toList (.s (.agg (ks 0 16)))) Tryz.func24 rfl ?_
 refine Run.cV [] (.tup [.o (.c (.slice none 0 0)),.o (.c (.bool false))]) (fun _ _ _ H=>pl32 29 a b c (H.b 5) p0 p1 p2) ?_
 exact Run.rV rfl
theorem fo3(a b c:Ci)(p0:dsOk (rci a)=true)(p1:dsOk (rci b)=true)(p2:dsOk (rci c)=true)(p3:Ci.all3 a b c=false):Calls Tryz.prog 24 #[ciV a,ciV b,ciV c] W (RetV (.tuple #[rciV rzCi,rciV rzCi,.int .i64 300]) W):=by
 have f0:=cifits_ht (dsOk_c p0).1
 have f1:=cifits_ht (dsOk_c p1).1
 have f2:=cifits_ht (dsOk_c p2).1
 refine Run.goP (S:=Z0) (((Pack.nil.k (ciV a) (ciC a).toList (.s (.agg (ks 0 16)))).k (ciV b) (ciC b).toList (.s (.agg (ks 0 16)))).k (ciV c) (ciC c).toList (.s (.agg (ks 0 16)))) Tryz.func24 rfl ?_
 refine Run.cB (n:=3) (T:=147) (φs:=ringF [a,b,c]) (fun _ _ _ H=>pl3Y 29 a b c (H.b 5) p0 p1 p2) (fun cp1=>?_)
 refine Run.cV [.bool ([b.touch a].all id&&[c.touch a,c.touch b].all id)] kb (fun _ _ _ H=>tch3 cp1 a b c (H.br 6) (RingP.mk (H.f 0) (H.f 1) (H.f 2) (H.f 3)) (RingP.mk (H.f 4) (H.f 5) (H.f 6) (H.f 7)) (RingP.mk (H.f 8) (H.f 9) (H.f 10) (H.f 11)) (by omega) (by omega) (by omega)) ?_
 refine Run.kn p3 ?_
 exact Run.rV rfl
theorem fo4(a b c:Ci)(p0:dsOk (rci a)=true)(p1:dsOk (rci b)=true)(p2:dsOk (rci c)=true)(p3:Ci.all3 a b c=true):Calls Tryz.prog 24 #[ciV a,ciV b,ciV c] W (RetV (.tuple #[rciV (Ci.f4P a b c),rciV (Ci.f4Q a b c),.int .i64 (Ci.f4E a b c)]) W):=by
 have f0:=cifits_ht (dsOk_c p0).1
 have f1:=cifits_ht (dsOk_c p1).1
 have f2:=cifits_ht (dsOk_c p2).1
 obtain⟨g1,g2,g3⟩:=f4_ht f0 f1 f2
 have g4:=acr_ht f0 f1 f2
 have g5:=plus_ht a b
 have g6:=out_hs (Ci.acr a b c)
 unfold Ci.f4s at g1
 unfold Ci.f4x Ci.f4s at g2
 unfold Ci.f4y Ci.f4s at g3
 refine Run.goP (S:=Z0) (((Pack.nil.k (ciV a) (ciC a).toList (.s (.agg (ks 0 16)))).k (ciV b) (ciC b).toList (.s (.agg (ks 0 16)))).k (ciV c) (ciC c).toList (.s (.agg (ks 0 16)))) Tryz.func24 rfl ?_
 refine Run.cB (n:=3) (T:=147) (φs:=ringF [a,b,c]) (fun _ _ _ H=>pl3Y 29 a b c (H.b 5) p0 p1 p2) (fun cp1=>?_)
 refine Run.cV [.bool ([b.touch a].all id&&[c.touch a,c.touch b].all id)] kb (fun _ _ _ H=>tch3 cp1 a b c (H.br 6) (RingP.mk (H.f 0) (H.f 1) (H.f 2) (H.f 3)) (RingP.mk (H.f 4) (H.f 5) (H.f 6) (H.f 7)) (RingP.mk (H.f 8) (H.f 9) (H.f 10) (H.f 11)) (by omega) (by omega) (by omega)) ?_
 refine Run.kn p3 ?_
 refine Run.dr ?_
 refine RunD.cR spRing (fun _ _ _ H=>dsPlus a b (RingP.mk (H.f 0) (H.f 1) (H.f 2) (H.f 3)) (RingP.mk (H.f 4) (H.f 5) (H.f 6) (H.f 7)) (by omega)) ?_
 refine RunD.cR spRing (fun _ _ _ H=>dsPlus (a.plus b) c (RingP.mk (H.f 12) (H.f 13) (H.f 14) (H.f 15)) (RingP.mk (H.f 8) (H.f 9) (H.f 10) (H.f 11)) (by omega)) ?_
 refine RunD.cR spRing (fun _ _ _ H=>acr cp1 a b c (H.br 6) (RingP.mk (H.f 0) (H.f 1) (H.f 2) (H.f 3)) (RingP.mk (H.f 4) (H.f 5) (H.f 6) (H.f 7)) (RingP.mk (H.f 8) (H.f 9) (H.f 10) (H.f 11)) (by omega) (by omega) (by omega)) ?_
 refine RunD.en ?_
 refine Run.dr ?_
 refine RunD.cR spRing (fun _ _ _ H=>dsPlus ((a.plus b).plus c) (Ci.acr a b c) (RingP.mk (H.f 16) (H.f 17) (H.f 18) (H.f 19)) (RingP.mk (H.f 20) (H.f 21) (H.f 22) (H.f 23)) (by omega)) ?_
 refine RunD.cR spRing (fun _ _ _ H=>dsOut (Ci.acr a b c) (RingP.mk (H.f 20) (H.f 21) (H.f 22) (H.f 23)) (by omega)) ?_
 refine RunD.cR spRing (fun _ _ _ H=>dsPlus ((a.plus b).plus c) ((Ci.acr a b c).out) (RingP.mk (H.f 16) (H.f 17) (H.f 18) (H.f 19)) (RingP.mk (H.f 28) (H.f 29) (H.f 30) (H.f 31)) (by omega)) ?_
 refine RunD.en ?_
 refine Run.cV [.bool ((((a.plus b).plus c).plus ((Ci.acr a b c).out)).ahd (((a.plus b).plus c).plus (Ci.acr a b c)))] kb (fun _ _ _ H=>ahd (((a.plus b).plus c).plus ((Ci.acr a b c).out)) (((a.plus b).plus c).plus (Ci.acr a b c)) (RingP.mk (H.f 32) (H.f 33) (H.f 34) (H.f 35)) (RingP.mk (H.f 24) (H.f 25) (H.f 26) (H.f 27)) (by omega)) ?_
 refine (Bool.eq_false_or_eq_true ((((a.plus b).plus c).plus ((Ci.acr a b c).out)).ahd (((a.plus b).plus c).plus (Ci.acr a b c)))).elim (fun c1=>?_) (fun c1=>?_)
 · refine Run.kn c1 ?_
   refine Run.cV ((rciC (cicut (((a.plus b).plus c).plus ((Ci.acr a b c).out)))).toList++[.int .i64 (cierr (((a.plus b).plus c).plus ((Ci.acr a b c).out)))]) (.tup [.agg (ks 0 16),.o (.k 16)]) (fun _ _ _ H=>dsTold (((a.plus b).plus c).plus ((Ci.acr a b c).out)) (RingP.mk (H.f 32) (H.f 33) (H.f 34) (H.f 35)) (by omega)) ?_
   refine Run.cV ((rciC (cicut (((a.plus b).plus c).plus (Ci.acr a b c)))).toList++[.int .i64 (cierr (((a.plus b).plus c).plus (Ci.acr a b c)))]) (.tup [.agg (ks 0 16),.o (.k 16)]) (fun _ _ _ H=>dsTold (((a.plus b).plus c).plus (Ci.acr a b c)) (RingP.mk (H.f 24) (H.f 25) (H.f 26) (H.f 27)) (by omega)) ?_
   refine Run.ic (cierr (((a.plus b).plus c).plus ((Ci.acr a b c).out))) 0 ((cierr (((a.plus b).plus c).plus ((Ci.acr a b c).out))) != 0) ?_
   refine (Bool.eq_false_or_eq_true ((cierr (((a.plus b).plus c).plus ((Ci.acr a b c).out))) != 0)).elim (fun c2=>?_) (fun c2=>?_)
   · refine Run.kn c2 ?_
     exact Run.rV (fo_1 c1 c2)
   · refine Run.kn c2 ?_
     refine Run.ic (cierr (((a.plus b).plus c).plus (Ci.acr a b c))) 0 ((cierr (((a.plus b).plus c).plus (Ci.acr a b c))) != 0) ?_
     refine (Bool.eq_false_or_eq_true ((cierr (((a.plus b).plus c).plus (Ci.acr a b c))) != 0)).elim (fun c3=>?_) (fun c3=>?_)
     · refine Run.kn c3 ?_
       exact Run.rV (fo_2 c1 c3)
     · refine Run.kn c3 ?_
       refine Run.dr ?_
       refine RunD.en ?_
       exact Run.rV (fo_3 c1 c2 c3)
 · refine Run.kn c1 ?_
   refine Run.cV ((rciC (cicut (((a.plus b).plus c).plus (Ci.acr a b c)))).toList++[.int .i64 (cierr (((a.plus b).plus c).plus (Ci.acr a b c)))]) (.tup [.agg (ks 0 16),.o (.k 16)]) (fun _ _ _ H=>dsTold (((a.plus b).plus c).plus (Ci.acr a b c)) (RingP.mk (H.f 24) (H.f 25) (H.f 26) (H.f 27)) (by omega)) ?_
   refine Run.cV ((rciC (cicut (((a.plus b).plus c).plus ((Ci.acr a b c).out)))).toList++[.int .i64 (cierr (((a.plus b).plus c).plus ((Ci.acr a b c).out)))]) (.tup [.agg (ks 0 16),.o (.k 16)]) (fun _ _ _ H=>dsTold (((a.plus b).plus c).plus ((Ci.acr a b c).out)) (RingP.mk (H.f 32) (H.f 33) (H.f 34) (H.f 35)) (by omega)) ?_
   refine Run.ic (cierr (((a.plus b).plus c).plus (Ci.acr a b c))) 0 ((cierr (((a.plus b).plus c).plus (Ci.acr a b c))) != 0) ?_
   refine (Bool.eq_false_or_eq_true ((cierr (((a.plus b).plus c).plus (Ci.acr a b c))) != 0)).elim (fun c4=>?_) (fun c4=>?_)
   · refine Run.kn c4 ?_
     exact Run.rV (fo_4 c1 c4)
   · refine Run.kn c4 ?_
     refine Run.ic (cierr (((a.plus b).plus c).plus ((Ci.acr a b c).out))) 0 ((cierr (((a.plus b).plus c).plus ((Ci.acr a b c).out))) != 0) ?_
     refine (Bool.eq_false_or_eq_true ((cierr (((a.plus b).plus c).plus ((Ci.acr a b c).out))) != 0)).elim (fun c5=>?_) (fun c5=>?_)
     · refine Run.kn c5 ?_
       exact Run.rV (fo_5 c1 c5)
     · refine Run.kn c5 ?_
       refine Run.dr ?_
       refine RunD.en ?_
       exact Run.rV (fo_6 c1 c4 c5)
theorem swp0{w0_0 w0_1 w0_2 w0_3 w0_4 w0_5 w0_6 w0_7 w0_8 w0_9 w0_10 w0_11 w0_12 w0_13 w0_14 w0_15:Value}{b0:Nat}(n0:Nat)(d0 d1 d2 d3:Ci)(B0:∃ r:List Value,W.heap[b0]? = some (.cells ⟨[w0_0,w0_1,w0_2,w0_3,w0_4,w0_5,w0_6,w0_7,w0_8,w0_9,w0_10,w0_11,w0_12,w0_13,w0_14,w0_15]++r⟩ 147 (0,0)))(t0_0:(RingP d0).p S (.agg #[w0_0,w0_1,w0_2,w0_3]) W)(t0_1:(RingP d1).p S (.agg #[w0_4,w0_5,w0_6,w0_7]) W)(t0_2:(RingP d2).p S (.agg #[w0_8,w0_9,w0_10,w0_11]) W)(t0_3:(RingP d3).p S (.agg #[w0_12,w0_13,w0_14,w0_15]) W)(p0:ht d0.a+ht d0.b.re+ht d0.b.im+ht d0.c≤1000000)(p1:ht d1.a+ht d1.b.re+ht d1.b.im+ht d1.c≤1000000)(p2:ht d2.a+ht d2.b.re+ht d2.b.im+ht d2.c≤1000000)(p3:ht d3.a+ht d3.b.re+ht d3.b.im+ht d3.c≤1000000):Calls Tryz.prog 88 #[.slice (some ⟨b0,0,none⟩) 4 (n0+4),.int .i64 0] W (Ret (RingP (Ci.swp d0 d1 d2 d3 d0)) S W):=by
 have h1:=plus_ht d0 d1
 have h2:=plus_ht (d0.plus d1) d2
 have h3:=plus_ht ((d0.plus d1).plus d2) d3
 have h4:=out_hs d0
 have h5:=plus_ht (((d0.plus d1).plus d2).plus d3) d0.out
 have h6:=plus_ht ((((d0.plus d1).plus d2).plus d3).plus d0.out) ((((d0.plus d1).plus d2).plus d3).plus d0.out)
 refine Run.goP (S:=S) ((Pack.nil.bm B0 4 (n0+4) 16 (AllF.app (ringCells t0_0) (AllF.app (ringCells t0_1) (AllF.app (ringCells t0_2) (ringCells t0_3))))).k (.int .i64 0) [] (.s (.o (.c (.int .i64 0))))) Tryz.func88 rfl ?_
 refine Run.dr ?_
 refine RunD.cR spRing (fun _ _ _ H=>dsPlus d0 d1 (RingP.mk (H.f 0) (H.f 1) (H.f 2) (H.f 3)) (RingP.mk (H.f 4) (H.f 5) (H.f 6) (H.f 7)) (by omega)) ?_
 refine RunD.cR spRing (fun _ _ _ H=>dsPlus (d0.plus d1) d2 (RingP.mk (H.f 16) (H.f 17) (H.f 18) (H.f 19)) (RingP.mk (H.f 8) (H.f 9) (H.f 10) (H.f 11)) (by omega)) ?_
 refine RunD.cR spRing (fun _ _ _ H=>dsPlus ((d0.plus d1).plus d2) d3 (RingP.mk (H.f 20) (H.f 21) (H.f 22) (H.f 23)) (RingP.mk (H.f 12) (H.f 13) (H.f 14) (H.f 15)) (by omega)) ?_
 refine RunD.cR spRing (fun _ _ _ H=>dsOut d0 (RingP.mk (H.f 0) (H.f 1) (H.f 2) (H.f 3)) (by omega)) ?_
 refine RunD.cR spRing (fun _ _ _ H=>dsPlus (((d0.plus d1).plus d2).plus d3) d0.out (RingP.mk (H.f 24) (H.f 25) (H.f 26) (H.f 27)) (RingP.mk (H.f 28) (H.f 29) (H.f 30) (H.f 31)) (by omega)) ?_
 refine RunD.en ?_
 refine Run.dr ?_
 refine RunD.cR spRing (fun _ _ _ H=>dsPlus ((((d0.plus d1).plus d2).plus d3).plus d0.out) ((((d0.plus d1).plus d2).plus d3).plus d0.out) (RingP.mk (H.f 32) (H.f 33) (H.f 34) (H.f 35)) (RingP.mk (H.f 32) (H.f 33) (H.f 34) (H.f 35)) (by omega)) ?_
 refine RunD.cR spRing (fun _ _ _ H=>dsOut d0 (RingP.mk (H.f 0) (H.f 1) (H.f 2) (H.f 3)) (by omega)) ?_
 refine RunD.cR spRing (fun _ _ _ H=>dsPlus (((((d0.plus d1).plus d2).plus d3).plus d0.out).plus ((((d0.plus d1).plus d2).plus d3).plus d0.out)) d0.out (RingP.mk (H.f 36) (H.f 37) (H.f 38) (H.f 39)) (RingP.mk (H.f 40) (H.f 41) (H.f 42) (H.f 43)) (by omega)) ?_
 refine RunD.en ?_
 exact Run.rR (fun _ _ _ H=>VPe (φ:=RingP) (rfl) (RingP.mk (H.f 44) (H.f 45) (H.f 46) (H.f 47)))
theorem swp1{w0_0 w0_1 w0_2 w0_3 w0_4 w0_5 w0_6 w0_7 w0_8 w0_9 w0_10 w0_11 w0_12 w0_13 w0_14 w0_15:Value}{b0:Nat}(n0:Nat)(d0 d1 d2 d3:Ci)(B0:∃ r:List Value,W.heap[b0]? = some (.cells ⟨[w0_0,w0_1,w0_2,w0_3,w0_4,w0_5,w0_6,w0_7,w0_8,w0_9,w0_10,w0_11,w0_12,w0_13,w0_14,w0_15]++r⟩ 147 (0,0)))(t0_0:(RingP d0).p S (.agg #[w0_0,w0_1,w0_2,w0_3]) W)(t0_1:(RingP d1).p S (.agg #[w0_4,w0_5,w0_6,w0_7]) W)(t0_2:(RingP d2).p S (.agg #[w0_8,w0_9,w0_10,w0_11]) W)(t0_3:(RingP d3).p S (.agg #[w0_12,w0_13,w0_14,w0_15]) W)(p0:ht d0.a+ht d0.b.re+ht d0.b.im+ht d0.c≤1000000)(p1:ht d1.a+ht d1.b.re+ht d1.b.im+ht d1.c≤1000000)(p2:ht d2.a+ht d2.b.re+ht d2.b.im+ht d2.c≤1000000)(p3:ht d3.a+ht d3.b.re+ht d3.b.im+ht d3.c≤1000000):Calls Tryz.prog 88 #[.slice (some ⟨b0,0,none⟩) 4 (n0+4),.int .i64 1] W (Ret (RingP (Ci.swp d0 d1 d2 d3 d1)) S W):=by
 have h1:=plus_ht d0 d1
 have h2:=plus_ht (d0.plus d1) d2
 have h3:=plus_ht ((d0.plus d1).plus d2) d3
 have h4:=out_hs d1
 have h5:=plus_ht (((d0.plus d1).plus d2).plus d3) d1.out
 have h6:=plus_ht ((((d0.plus d1).plus d2).plus d3).plus d1.out) ((((d0.plus d1).plus d2).plus d3).plus d1.out)
 refine Run.goP (S:=S) ((Pack.nil.bm B0 4 (n0+4) 16 (AllF.app (ringCells t0_0) (AllF.app (ringCells t0_1) (AllF.app (ringCells t0_2) (ringCells t0_3))))).k (.int .i64 1) [] (.s (.o (.c (.int .i64 1))))) Tryz.func88 rfl ?_
 refine Run.dr ?_
 refine RunD.cR spRing (fun _ _ _ H=>dsPlus d0 d1 (RingP.mk (H.f 0) (H.f 1) (H.f 2) (H.f 3)) (RingP.mk (H.f 4) (H.f 5) (H.f 6) (H.f 7)) (by omega)) ?_
 refine RunD.cR spRing (fun _ _ _ H=>dsPlus (d0.plus d1) d2 (RingP.mk (H.f 16) (H.f 17) (H.f 18) (H.f 19)) (RingP.mk (H.f 8) (H.f 9) (H.f 10) (H.f 11)) (by omega)) ?_
 refine RunD.cR spRing (fun _ _ _ H=>dsPlus ((d0.plus d1).plus d2) d3 (RingP.mk (H.f 20) (H.f 21) (H.f 22) (H.f 23)) (RingP.mk (H.f 12) (H.f 13) (H.f 14) (H.f 15)) (by omega)) ?_
 refine RunD.cR spRing (fun _ _ _ H=>dsOut d1 (RingP.mk (H.f 4) (H.f 5) (H.f 6) (H.f 7)) (by omega)) ?_
 refine RunD.cR spRing (fun _ _ _ H=>dsPlus (((d0.plus d1).plus d2).plus d3) d1.out (RingP.mk (H.f 24) (H.f 25) (H.f 26) (H.f 27)) (RingP.mk (H.f 28) (H.f 29) (H.f 30) (H.f 31)) (by omega)) ?_
 refine RunD.en ?_
 refine Run.dr ?_
 refine RunD.cR spRing (fun _ _ _ H=>dsPlus ((((d0.plus d1).plus d2).plus d3).plus d1.out) ((((d0.plus d1).plus d2).plus d3).plus d1.out) (RingP.mk (H.f 32) (H.f 33) (H.f 34) (H.f 35)) (RingP.mk (H.f 32) (H.f 33) (H.f 34) (H.f 35)) (by omega)) ?_
 refine RunD.cR spRing (fun _ _ _ H=>dsOut d1 (RingP.mk (H.f 4) (H.f 5) (H.f 6) (H.f 7)) (by omega)) ?_
 refine RunD.cR spRing (fun _ _ _ H=>dsPlus (((((d0.plus d1).plus d2).plus d3).plus d1.out).plus ((((d0.plus d1).plus d2).plus d3).plus d1.out)) d1.out (RingP.mk (H.f 36) (H.f 37) (H.f 38) (H.f 39)) (RingP.mk (H.f 40) (H.f 41) (H.f 42) (H.f 43)) (by omega)) ?_
 refine RunD.en ?_
 exact Run.rR (fun _ _ _ H=>VPe (φ:=RingP) (rfl) (RingP.mk (H.f 44) (H.f 45) (H.f 46) (H.f 47)))
theorem swp2{w0_0 w0_1 w0_2 w0_3 w0_4 w0_5 w0_6 w0_7 w0_8 w0_9 w0_10 w0_11 w0_12 w0_13 w0_14 w0_15:Value}{b0:Nat}(n0:Nat)(d0 d1 d2 d3:Ci)(B0:∃ r:List Value,W.heap[b0]? = some (.cells ⟨[w0_0,w0_1,w0_2,w0_3,w0_4,w0_5,w0_6,w0_7,w0_8,w0_9,w0_10,w0_11,w0_12,w0_13,w0_14,w0_15]++r⟩ 147 (0,0)))(t0_0:(RingP d0).p S (.agg #[w0_0,w0_1,w0_2,w0_3]) W)(t0_1:(RingP d1).p S (.agg #[w0_4,w0_5,w0_6,w0_7]) W)(t0_2:(RingP d2).p S (.agg #[w0_8,w0_9,w0_10,w0_11]) W)(t0_3:(RingP d3).p S (.agg #[w0_12,w0_13,w0_14,w0_15]) W)(p0:ht d0.a+ht d0.b.re+ht d0.b.im+ht d0.c≤1000000)(p1:ht d1.a+ht d1.b.re+ht d1.b.im+ht d1.c≤1000000)(p2:ht d2.a+ht d2.b.re+ht d2.b.im+ht d2.c≤1000000)(p3:ht d3.a+ht d3.b.re+ht d3.b.im+ht d3.c≤1000000):Calls Tryz.prog 88 #[.slice (some ⟨b0,0,none⟩) 4 (n0+4),.int .i64 2] W (Ret (RingP (Ci.swp d0 d1 d2 d3 d2)) S W):=by
 have h1:=plus_ht d0 d1
 have h2:=plus_ht (d0.plus d1) d2
 have h3:=plus_ht ((d0.plus d1).plus d2) d3
 have h4:=out_hs d2
 have h5:=plus_ht (((d0.plus d1).plus d2).plus d3) d2.out
 have h6:=plus_ht ((((d0.plus d1).plus d2).plus d3).plus d2.out) ((((d0.plus d1).plus d2).plus d3).plus d2.out)
 refine Run.goP (S:=S) ((Pack.nil.bm B0 4 (n0+4) 16 (AllF.app (ringCells t0_0) (AllF.app (ringCells t0_1) (AllF.app (ringCells t0_2) (ringCells t0_3))))).k (.int .i64 2) [] (.s (.o (.c (.int .i64 2))))) Tryz.func88 rfl ?_
 refine Run.dr ?_
 refine RunD.cR spRing (fun _ _ _ H=>dsPlus d0 d1 (RingP.mk (H.f 0) (H.f 1) (H.f 2) (H.f 3)) (RingP.mk (H.f 4) (H.f 5) (H.f 6) (H.f 7)) (by omega)) ?_
 refine RunD.cR spRing (fun _ _ _ H=>dsPlus (d0.plus d1) d2 (RingP.mk (H.f 16) (H.f 17) (H.f 18) (H.f 19)) (RingP.mk (H.f 8) (H.f 9) (H.f 10) (H.f 11)) (by omega)) ?_
 refine RunD.cR spRing (fun _ _ _ H=>dsPlus ((d0.plus d1).plus d2) d3 (RingP.mk (H.f 20) (H.f 21) (H.f 22) (H.f 23)) (RingP.mk (H.f 12) (H.f 13) (H.f 14) (H.f 15)) (by omega)) ?_
 refine RunD.cR spRing (fun _ _ _ H=>dsOut d2 (RingP.mk (H.f 8) (H.f 9) (H.f 10) (H.f 11)) (by omega)) ?_
 refine RunD.cR spRing (fun _ _ _ H=>dsPlus (((d0.plus d1).plus d2).plus d3) d2.out (RingP.mk (H.f 24) (H.f 25) (H.f 26) (H.f 27)) (RingP.mk (H.f 28) (H.f 29) (H.f 30) (H.f 31)) (by omega)) ?_
 refine RunD.en ?_
 refine Run.dr ?_
 refine RunD.cR spRing (fun _ _ _ H=>dsPlus ((((d0.plus d1).plus d2).plus d3).plus d2.out) ((((d0.plus d1).plus d2).plus d3).plus d2.out) (RingP.mk (H.f 32) (H.f 33) (H.f 34) (H.f 35)) (RingP.mk (H.f 32) (H.f 33) (H.f 34) (H.f 35)) (by omega)) ?_
 refine RunD.cR spRing (fun _ _ _ H=>dsOut d2 (RingP.mk (H.f 8) (H.f 9) (H.f 10) (H.f 11)) (by omega)) ?_
 refine RunD.cR spRing (fun _ _ _ H=>dsPlus (((((d0.plus d1).plus d2).plus d3).plus d2.out).plus ((((d0.plus d1).plus d2).plus d3).plus d2.out)) d2.out (RingP.mk (H.f 36) (H.f 37) (H.f 38) (H.f 39)) (RingP.mk (H.f 40) (H.f 41) (H.f 42) (H.f 43)) (by omega)) ?_
 refine RunD.en ?_
 exact Run.rR (fun _ _ _ H=>VPe (φ:=RingP) (rfl) (RingP.mk (H.f 44) (H.f 45) (H.f 46) (H.f 47)))
theorem swp3{w0_0 w0_1 w0_2 w0_3 w0_4 w0_5 w0_6 w0_7 w0_8 w0_9 w0_10 w0_11 w0_12 w0_13 w0_14 w0_15:Value}{b0:Nat}(n0:Nat)(d0 d1 d2 d3:Ci)(B0:∃ r:List Value,W.heap[b0]? = some (.cells ⟨[w0_0,w0_1,w0_2,w0_3,w0_4,w0_5,w0_6,w0_7,w0_8,w0_9,w0_10,w0_11,w0_12,w0_13,w0_14,w0_15]++r⟩ 147 (0,0)))(t0_0:(RingP d0).p S (.agg #[w0_0,w0_1,w0_2,w0_3]) W)(t0_1:(RingP d1).p S (.agg #[w0_4,w0_5,w0_6,w0_7]) W)(t0_2:(RingP d2).p S (.agg #[w0_8,w0_9,w0_10,w0_11]) W)(t0_3:(RingP d3).p S (.agg #[w0_12,w0_13,w0_14,w0_15]) W)(p0:ht d0.a+ht d0.b.re+ht d0.b.im+ht d0.c≤1000000)(p1:ht d1.a+ht d1.b.re+ht d1.b.im+ht d1.c≤1000000)(p2:ht d2.a+ht d2.b.re+ht d2.b.im+ht d2.c≤1000000)(p3:ht d3.a+ht d3.b.re+ht d3.b.im+ht d3.c≤1000000):Calls Tryz.prog 88 #[.slice (some ⟨b0,0,none⟩) 4 (n0+4),.int .i64 3] W (Ret (RingP (Ci.swp d0 d1 d2 d3 d3)) S W):=by
 have h1:=plus_ht d0 d1
 have h2:=plus_ht (d0.plus d1) d2
 have h3:=plus_ht ((d0.plus d1).plus d2) d3
 have h4:=out_hs d3
 have h5:=plus_ht (((d0.plus d1).plus d2).plus d3) d3.out
 have h6:=plus_ht ((((d0.plus d1).plus d2).plus d3).plus d3.out) ((((d0.plus d1).plus d2).plus d3).plus d3.out)
 refine Run.goP (S:=S) ((Pack.nil.bm B0 4 (n0+4) 16 (AllF.app (ringCells t0_0) (AllF.app (ringCells t0_1) (AllF.app (ringCells t0_2) (ringCells t0_3))))).k (.int .i64 3) [] (.s (.o (.c (.int .i64 3))))) Tryz.func88 rfl ?_
 refine Run.dr ?_
 refine RunD.cR spRing (fun _ _ _ H=>dsPlus d0 d1 (RingP.mk (H.f 0) (H.f 1) (H.f 2) (H.f 3)) (RingP.mk (H.f 4) (H.f 5) (H.f 6) (H.f 7)) (by omega)) ?_
 refine RunD.cR spRing (fun _ _ _ H=>dsPlus (d0.plus d1) d2 (RingP.mk (H.f 16) (H.f 17) (H.f 18) (H.f 19)) (RingP.mk (H.f 8) (H.f 9) (H.f 10) (H.f 11)) (by omega)) ?_
 refine RunD.cR spRing (fun _ _ _ H=>dsPlus ((d0.plus d1).plus d2) d3 (RingP.mk (H.f 20) (H.f 21) (H.f 22) (H.f 23)) (RingP.mk (H.f 12) (H.f 13) (H.f 14) (H.f 15)) (by omega)) ?_
 refine RunD.cR spRing (fun _ _ _ H=>dsOut d3 (RingP.mk (H.f 12) (H.f 13) (H.f 14) (H.f 15)) (by omega)) ?_
 refine RunD.cR spRing (fun _ _ _ H=>dsPlus (((d0.plus d1).plus d2).plus d3) d3.out (RingP.mk (H.f 24) (H.f 25) (H.f 26) (H.f 27)) (RingP.mk (H.f 28) (H.f 29) (H.f 30) (H.f 31)) (by omega)) ?_
 refine RunD.en ?_
 refine Run.dr ?_
 refine RunD.cR spRing (fun _ _ _ H=>dsPlus ((((d0.plus d1).plus d2).plus d3).plus d3.out) ((((d0.plus d1).plus d2).plus d3).plus d3.out) (RingP.mk (H.f 32) (H.f 33) (H.f 34) (H.f 35)) (RingP.mk (H.f 32) (H.f 33) (H.f 34) (H.f 35)) (by omega)) ?_
 refine RunD.cR spRing (fun _ _ _ H=>dsOut d3 (RingP.mk (H.f 12) (H.f 13) (H.f 14) (H.f 15)) (by omega)) ?_
 refine RunD.cR spRing (fun _ _ _ H=>dsPlus (((((d0.plus d1).plus d2).plus d3).plus d3.out).plus ((((d0.plus d1).plus d2).plus d3).plus d3.out)) d3.out (RingP.mk (H.f 36) (H.f 37) (H.f 38) (H.f 39)) (RingP.mk (H.f 40) (H.f 41) (H.f 42) (H.f 43)) (by omega)) ?_
 refine RunD.en ?_
 exact Run.rR (fun _ _ _ H=>VPe (φ:=RingP) (rfl) (RingP.mk (H.f 44) (H.f 45) (H.f 46) (H.f 47)))
theorem sw1(i:Int):Calls Tryz.prog 87 #[.int .i64 i] W (RetV (.bool ((decide (i<0))||(decide (3<i)))) W):=by
 refine Run.goP (S:=Z0) (Pack.nil.k (.int .i64 i) [.int .i64 i] kb) Tryz.func87 rfl ?_
 refine Run.ic i 0 (decide (i<0)) ?_
 refine (Bool.eq_false_or_eq_true (decide (i<0))).elim (fun c1=>?_) (fun c1=>?_)
 · refine Run.kn c1 ?_
   exact Run.rV (V' := .bool true) ((congrArg Value.bool (by simp [c1])))
 · refine Run.kn c1 ?_
   refine Run.ic i 3 (decide (3<i)) ?_
   exact Run.rV (V' := .bool (decide (3<i))) ((congrArg Value.bool (by simp [c1])))
theorem ii1{b0:Nat}(T0:TypeId)(i:Int)(B0:W.heap[b0]? = some (.cells (#[.int .i64 i]) T0 (0,0))):Calls Tryz.prog 217 #[.slice (some ⟨b0,0,none⟩) 1 1,.func (.func 87) #[] #[]] W (RetV (.int .i64 (idxF [!((decide (i<0))||(decide (3<i)))] 0)) W):=by
 refine Run.goP (S:=Z0) ((Pack.nil.b B0 (some 1) 1).k (.func (.func 87) #[] #[]) [] (.s (.o (.fn 87 [])))) Tryz.func217 rfl ?_
 refine Run.cV [.bool ((decide (i<0))||(decide (3<i)))] kb (fun _ _ _ H=>sw1 i) ?_
 refine (Bool.eq_false_or_eq_true ((decide (i<0))||(decide (3<i)))).elim (fun c1=>?_) (fun c1=>?_)
 · refine Run.kn c1 ?_
   exact Run.rV (V' := .int .i64 (0)) ((congrArg (Value.int .i64) (by simp only [idxF,c1];rfl)))
 · refine Run.kn c1 ?_
   exact Run.rV (V' := .int .i64 (-1)) ((congrArg (Value.int .i64) (by simp only [idxF,c1];rfl)))
theorem ci1{b0:Nat}(T0:TypeId)(i:Int)(B0:W.heap[b0]? = some (.cells (#[.int .i64 i]) T0 (0,0))):Calls Tryz.prog 86 #[.slice (some ⟨b0,0,none⟩) 1 1,.func (.func 87) #[] #[]] W (RetV (.bool ((decide (i<0))||(decide (3<i)))) W):=by
 refine Run.goP (S:=Z0) ((Pack.nil.b B0 (some 1) 1).k (.func (.func 87) #[] #[]) [] (.s (.o (.fn 87 [])))) Tryz.func86 rfl ?_
 refine Run.cV [.int .i64 (idxF [!((decide (i<0))||(decide (3<i)))] 0)] kb (fun _ _ _ H=>ii1 T0 i (H.b 0)) ?_
 refine Run.ic (idxF [!((decide (i<0))||(decide (3<i)))] 0) 0 (decide (0≤(idxF [!((decide (i<0))||(decide (3<i)))] 0))) ?_
 exact Run.rV ((congrArg Value.bool (ci1_eq _)))
theorem frY(d0 d1 d2 d3:Ci)(p0:dsOk (rci d0)=true)(p1:dsOk (rci d1)=true)(p2:dsOk (rci d2)=true)(p3:dsOk (rci d3)=true)(p4:Ci.all4 d0 d1 d2 d3=true):Calls Tryz.prog 85 #[.agg ⟨(ciC d0).toList++(ciC d1).toList++(ciC d2).toList++(ciC d3).toList⟩] W (RetB 147 4 (ringF [d0,d1,d2,d3]) (.int .i64 0) S W):=by
 have f0:=cifits_ht (dsOk_c p0).1
 have f1:=cifits_ht (dsOk_c p1).1
 have f2:=cifits_ht (dsOk_c p2).1
 have f3:=cifits_ht (dsOk_c p3).1
 refine Run.goP (S:=S) (Pack.nil.k (.agg ⟨(ciC d0).toList++(ciC d1).toList++(ciC d2).toList++(ciC d3).toList⟩) ((ciC d0).toList++(ciC d1).toList++(ciC d2).toList++(ciC d3).toList) (.s (.agg (ks 0 64)))) Tryz.func85 rfl ?_
 refine Run.cB (n:=4) (T:=147) (φs:=ringF [d0,d1,d2,d3]) (fun _ _ _ H=>pl4Y 30 d0 d1 d2 d3 (H.b 0) p0 p1 p2 p3) (fun cp1=>?_)
 refine Run.cV [.bool ([d1.touch d0].all id&&[d2.touch d0,d2.touch d1].all id&&[d3.touch d0,d3.touch d1,d3.touch d2].all id)] kb (fun _ _ _ H=>tch4 cp1 d0 d1 d2 d3 (H.br 1) (RingP.mk (H.f 0) (H.f 1) (H.f 2) (H.f 3)) (RingP.mk (H.f 4) (H.f 5) (H.f 6) (H.f 7)) (RingP.mk (H.f 8) (H.f 9) (H.f 10) (H.f 11)) (RingP.mk (H.f 12) (H.f 13) (H.f 14) (H.f 15)) (by omega) (by omega) (by omega) (by omega) (by omega) (by omega)) ?_
 refine Run.kn p4 ?_
 exact Run.rB 1 cp1
def intsC(l:List Int):Array Value:=⟨l.map (Value.int .i64)⟩
theorem intsC_at{l:List Int}{j:Nat}(h:j<l.length):((intsC l).toList.drop (1*j)).take 1=[.int .i64 (l.getD j 0)]:=by
 show ((l.map (Value.int .i64)).drop (1*j)).take 1=_
 rw [Nat.one_mul,← List.map_drop,List.drop_eq_getElem_cons h,List.map_cons]
 show [Value.int .i64 l[j]]=[.int .i64 (l.getD j 0)]
 rw [List.getD_eq_getElem?_getD,List.getElem?_eq_getElem h];rfl
theorem intsC_app(l:List Int)(i:Int):intsC l++[Value.int .i64 i].toArray=intsC (l++[i]):=by
 apply Array.toList_inj.1
 rw [Array.toList_append]
 show l.map (Value.int .i64)++[.int .i64 i]=(l++[i]).map (Value.int .i64)
 simp
theorem intsC_size(l:List Int):(intsC l).size=l.length*1:=by show (l.map _).length=_;simp
def badI(i:Int):Bool:=decide (i<0)||decide (3<i)
def idxB:List Int→Int→Int
 | [],_=>-1
 | i::l,k=>if badI i=true then k else idxB l (k+1)
theorem idxB_any(l:List Int):decide ((0:Int)≤idxB l 0)=l.any badI:=by
 have key:∀ (l:List Int) (k:Int),0≤k→decide ((0:Int)≤idxB l k)=l.any badI:=by
  intro l
  induction l with
  | nil=>intro k _;rfl
  | cons b l ih =>
   intro k hk
   unfold idxB
   rw [List.any_cons]
   cases h:badI b with
   | true=>rw [if_pos rfl];exact decide_eq_true hk
   | false=>rw [if_neg (by decide),ih (k+1) (by omega)];rfl
 exact key l 0 (Int.le_refl _)
theorem drop_at{l:List Int}{j:Nat}(h:j<l.length):l.drop j=l.getD j 0::l.drop (j+1):=by
 rw [List.drop_eq_getElem_cons h];simp [List.getD_eq_getElem?_getD,h]
theorem ixL{b0:Nat}(l:List Int)(cap:Nat)(B0:∃ r:List Value,W.heap[b0]? = some (.cells ⟨(intsC l).toList++r⟩ 3 (0,0)))(p0:l.length≤100000):Calls Tryz.prog 217 #[.slice (some ⟨b0,0,none⟩) l.length cap,.func (.func 87) #[] #[]] W (RetV (.int .i64 (idxB l 0)) W):=by
 obtain⟨r,B0⟩:=B0
 refine Run.goP (S:=Z0) ((Pack.nil.bL B0 l.length cap).k (.func (.func 87) #[] #[]) [] (.s (.o (.fn 87 [])))) Tryz.func217 rfl ?_
 refine Run.ln l.length 31 ?_
 refine Run.tl (l.length+1) ?_
 refine Run.lpX (ι:=Nat) [(0,.s (.o (.ls 0 l.length cap))),(1,.s (.o (.fn 87 []))),(7,.s (.o (.k 0))),(8,.s (.o (.k 1)))]
  [⟨3,[mkL ((intsC l).size+r.length) (intsC l)],false,none,false⟩] 2 0
  (fun x=>[.int .i64 (l.length:Nat),.int .i64 (x:Nat)]) (fun _=>[])
  (fun r x=>x+r=l.length+1∧x≤l.length∧idxB (l.drop x) x=idxB l 0) ?_ (fun L=>?_)
 · intro r i h IH
   obtain⟨h1,h2,h3⟩:=h
   by_cases hi:i<l.length
   · obtain⟨r', rfl⟩:∃ r', r=r'+1:=⟨r-1,by omega⟩
     refine Run.ik .lss i (l.length:Nat) true (dT (by omega)) ?_
     refine Run.li 0 l.length cap i 1 3 31 [.int .i64 (l.getD i 0)] kb (intsC l) hi (intsC_at hi) ?_
     refine Run.cV [.bool (badI (l.getD i 0))] kb (fun _ _ _ H=>sw1 (l.getD i 0)) ?_
     rw [← h3,drop_at hi]
     cases hb:badI (l.getD i 0) with
     | true =>
       refine Run.kn (b:=true) rfl ?_
       exact Run.rV (V' := .int .i64 (i:Nat)) (congrArg (Value.int .i64) (by unfold idxB;rw [if_pos hb]))
     | false =>
       refine Run.kn (b:=false) rfl ?_
       refine Run.bi (op:=.add) (t:=3) (a:=.int .i64 i) (c:=.int .i64 1) [.int .i64 ((i+1:Nat):Int)] kb (fun w o ρ x y t' ho hx hy=>ex_iadd (wrap_62 (n:=(i:Int)+1) (by omega) (by omega)) ho hx hy) ?_
       refine Run.to far ?_
       have e:idxB (l.getD i 0::l.drop (i+1)) (i:Nat)=idxB (l.drop (i+1)) ((i+1:Nat):Int):=by
         show (if badI (l.getD i 0)=true then _ else _)=_;rw [if_neg (by rw [hb];decide)];rfl
       rw [e]
       have R:=IH r' (i+1) rfl ⟨by omega,hi,by rw [← h3,drop_at hi,e]⟩
       rw [← h3,drop_at hi,e] at R
       exact Run.as (fun k=>k) id R (hc:=by kernel_rfl) (hk:=by kernel_rfl)
   · obtain rfl:i=l.length:=by omega
     refine Run.ik .lss (l.length:Nat) (l.length:Nat) false (dF (by omega)) ?_
     exact Run.rV (congrArg (Value.int .i64) (by rw [← h3,List.drop_length];try rfl))
 · refine Run.to far ?_
   exact Run.as (fun k=>k) id (L (l.length+1) 0 ⟨by omega,by omega,rfl⟩) (hc:=by kernel_rfl) (hk:=by kernel_rfl)
theorem cfL{b0:Nat}(l:List Int)(cap:Nat)(B0:∃ r:List Value,W.heap[b0]? = some (.cells ⟨(intsC l).toList++r⟩ 3 (0,0)))(p0:l.length≤100000):Calls Tryz.prog 86 #[.slice (some ⟨b0,0,none⟩) l.length cap,.func (.func 87) #[] #[]] W (RetV (.bool (l.any badI)) W):=by
 obtain⟨r,B0⟩:=B0
 refine Run.goP (S:=Z0) ((Pack.nil.bL B0 l.length cap).k (.func (.func 87) #[] #[]) [] (.s (.o (.fn 87 [])))) Tryz.func86 rfl ?_
 refine Run.cV [.int .i64 (idxB l 0)] kb (fun _ _ _ H=>ixL l cap (H.bL 0) p0) ?_
 refine Run.ic (idxB l 0) 0 (decide (0≤idxB l 0)) ?_
 exact Run.rV (V' := .bool (decide (0≤idxB l 0))) (congrArg Value.bool (idxB_any l))
theorem sws0Y{b1:Nat}(d0 d1 d2 d3:Ci)(T1:TypeId)(B1:W.heap[b1]? = some (.cells #[.int .i64 0] T1 (0,0)))(p0:dsOk (rci d0)=true)(p1:dsOk (rci d1)=true)(p2:dsOk (rci d2)=true)(p3:dsOk (rci d3)=true)(p4:Ci.all4 d0 d1 d2 d3=true)(p5:((cierr (Ci.swp d0 d1 d2 d3 d0)) != 0)=false):Calls Tryz.prog 15 #[.agg ⟨(ciC d0).toList++(ciC d1).toList++(ciC d2).toList++(ciC d3).toList⟩,.slice (some ⟨b1,0,none⟩) 1 1] W (RetV (.tuple #[.agg ⟨(rciC (cicut (Ci.swp d0 d1 d2 d3 d0))).toList++(ciC d1).toList++(ciC d2).toList++(ciC d3).toList⟩,.int .i64 0]) W):=by
 have f0:=cifits_ht (dsOk_c p0).1
 have f1:=cifits_ht (dsOk_c p1).1
 have f2:=cifits_ht (dsOk_c p2).1
 have f3:=cifits_ht (dsOk_c p3).1
 have g0:=swp_ht d0 d1 d2 d3 d0
 refine Run.goP (S:=Z0) ((Pack.nil.k (.agg ⟨(ciC d0).toList++(ciC d1).toList++(ciC d2).toList++(ciC d3).toList⟩) ((ciC d0).toList++(ciC d1).toList++(ciC d2).toList++(ciC d3).toList) (.s (.agg (ks 0 64)))).bc B1 (some 1)) Tryz.func15 rfl ?_
 refine Run.cB (n:=4) (T:=147) (φs:=ringF [d0,d1,d2,d3]) (fun _ _ _ H=>frY d0 d1 d2 d3 p0 p1 p2 p3 p4) (fun cp1=>?_)
 refine Run.cV [.bool ((decide (0<0))||(decide (3<0)))] kb (fun _ _ _ H=>ci1 T1 0 (H.b 0)) ?_
 refine Run.kn (b:=false) rfl ?_
 refine Run.cR spRing (fun _ _ _ H=>swp0 cp1 d0 d1 d2 d3 (H.br 3) (RingP.mk (H.f 0) (H.f 1) (H.f 2) (H.f 3)) (RingP.mk (H.f 4) (H.f 5) (H.f 6) (H.f 7)) (RingP.mk (H.f 8) (H.f 9) (H.f 10) (H.f 11)) (RingP.mk (H.f 12) (H.f 13) (H.f 14) (H.f 15)) (by omega) (by omega) (by omega) (by omega)) ?_
 refine Run.sm 3 0 ?_
 refine Run.cV ((rciC (cicut (Ci.swp d0 d1 d2 d3 d0))).toList++[.int .i64 (cierr (Ci.swp d0 d1 d2 d3 d0))]) (.tup [.agg (ks 0 16),.o (.k 16)]) (fun _ _ _ H=>dsTold (Ci.swp d0 d1 d2 d3 d0) (RingP.mk (H.f 16) (H.f 17) (H.f 18) (H.f 19)) (by omega)) ?_
 refine Run.ic (cierr (Ci.swp d0 d1 d2 d3 d0)) 0 ((cierr (Ci.swp d0 d1 d2 d3 d0)) != 0) ?_
 refine Run.kn p5 ?_
 exact Run.rV rfl
theorem sw0Y(d0 d1 d2 d3:Ci)(p0:dsOk (rci d0)=true)(p1:dsOk (rci d1)=true)(p2:dsOk (rci d2)=true)(p3:dsOk (rci d3)=true)(p4:Ci.all4 d0 d1 d2 d3=true)(p5:((cierr (Ci.swp d0 d1 d2 d3 d0)) != 0)=false):Calls Tryz.prog 14 #[.agg ⟨(ciC d0).toList++(ciC d1).toList++(ciC d2).toList++(ciC d3).toList⟩,.int .i64 0] W (RetV (.tuple #[.agg ⟨(rciC (cicut (Ci.swp d0 d1 d2 d3 d0))).toList++(ciC d1).toList++(ciC d2).toList++(ciC d3).toList⟩,.int .i64 0]) W):=by
 refine Run.goP (S:=Z0) ((Pack.nil.k (.agg ⟨(ciC d0).toList++(ciC d1).toList++(ciC d2).toList++(ciC d3).toList⟩) ((ciC d0).toList++(ciC d1).toList++(ciC d2).toList++(ciC d3).toList) (.s (.agg (ks 0 64)))).k (.int .i64 0) [] (.s (.o (.c (.int .i64 0))))) Tryz.func14 rfl ?_
 refine Run.cV ((rciC (cicut (Ci.swp d0 d1 d2 d3 d0))).toList++(ciC d1).toList++(ciC d2).toList++(ciC d3).toList) (.tup [.agg (ks 0 64),.o (.c (.int .i64 0))]) (fun _ _ _ H=>sws0Y d0 d1 d2 d3 3 (H.b 2) p0 p1 p2 p3 p4 p5) ?_
 exact Run.rV rfl
structure Q4 where
 a:Ci
 b:Ci
 c:Ci
 d:Ci
abbrev Q4.C(x:Q4):List Value:=(ciC x.a).toList++(ciC x.b).toList++(ciC x.c).toList++(ciC x.d).toList
def Q4.sw(x:Q4)(i:Int):Q4 :=
 if i=0 then ⟨Ci.swp x.a x.b x.c x.d x.a,x.b,x.c,x.d⟩ else if i=1 then ⟨x.a,Ci.swp x.a x.b x.c x.d x.b,x.c,x.d⟩ else if i=2 then ⟨x.a,x.b,Ci.swp x.a x.b x.c x.d x.c,x.d⟩ else ⟨x.a,x.b,x.c,Ci.swp x.a x.b x.c x.d x.d⟩
def Q4.at(x:Q4)(i:Int):Ci:=if i=0 then x.a else if i=1 then x.b else if i=2 then x.c else x.d
def Q4.sws:List Int→Q4→Option Q4
 | [],x=>some x
 | i::l,x=>if cifits (rci ((x.sw i).at i))=true then (x.sw i).sws l else none
def Q4.z:List Value:=(rciC rzCi).toList++(rciC rzCi).toList++(rciC rzCi).toList++(rciC rzCi).toList
def Q4.V(o:Option Q4)(k:Int):Value:=match o with
 | some x=>.tuple #[.agg ⟨x.C⟩,.int .i64 0]
 | none=>.tuple #[.agg ⟨Q4.z⟩,.int .i64 k]
def Q4.sm(x:Q4):Prop:=(ht x.a.a+ht x.a.b.re+ht x.a.b.im+ht x.a.c≤40000)∧(ht x.b.a+ht x.b.b.re+ht x.b.b.im+ht x.b.c≤40000)∧(ht x.c.a+ht x.c.b.re+ht x.c.b.im+ht x.c.c≤40000)∧(ht x.d.a+ht x.d.b.re+ht x.d.b.im+ht x.d.c≤40000)
theorem dsToF{v0:Value}(c:Ci)(t0:(RingP c).p S v0 W)(p0:ht c.a+ht c.b.re+ht c.b.im+ht c.c≤1073741824)(p1:cifits (rci c)=true):Calls Tryz.prog 89 #[v0] W (RetV (.tuple #[ciV c,.int .i64 0]) W):=by
 refine reV ?_ (dsTold c t0 p0)
 rw [show cicut c=rci c by unfold cicut;rw [if_pos p1],show cierr c=0 by unfold cierr;rw [if_pos p1]]
theorem dsToN{v0:Value}(c:Ci)(t0:(RingP c).p S v0 W)(p0:ht c.a+ht c.b.re+ht c.b.im+ht c.c≤1073741824)(p1:cifits (rci c)=false):Calls Tryz.prog 89 #[v0] W (RetV (.tuple #[rciV rzCi,.int .i64 4]) W):=by
 refine reV ?_ (dsTold c t0 p0)
 rw [show cicut c=rzCi by unfold cicut;rw [if_neg (by rw [p1];decide)],show cierr c=4 by unfold cierr;rw [if_neg (by rw [p1];decide)]]
theorem bad4{i:Int}(h:badI i=false):i=0∨i=1∨i=2∨i=3:=by
 unfold badI at h
 rw [Bool.or_eq_false_iff] at h
 have h1:=of_decide_eq_false h.1
 have h2:=of_decide_eq_false h.2
 omega
theorem all_at{l:List Int}(h:l.any badI=false){j:Nat}(hj:j<l.length):badI (l.getD j 0)=false:=by
 rw [List.getD_eq_getElem?_getD,List.getElem?_eq_getElem hj]
 have:=List.any_eq_false.1 h l[j] (List.getElem_mem hj)
 simpa using this
theorem swsL{b1:Nat}(d0 d1 d2 d3:Ci)(l:List Int)(capL:Nat)(B1:∃ r:List Value,W.heap[b1]? = some (.cells ⟨(intsC l).toList++r⟩ 3 (0,0)))(p0:dsOk (rci d0)=true)(p1:dsOk (rci d1)=true)(p2:dsOk (rci d2)=true)(p3:dsOk (rci d3)=true)(p4:Ci.all4 d0 d1 d2 d3=true)(p5:l.length≤4096)(p6:l.any badI=false):Calls Tryz.prog 15 #[.agg ⟨(ciC d0).toList++(ciC d1).toList++(ciC d2).toList++(ciC d3).toList⟩,.slice (some ⟨b1,0,none⟩) l.length capL] W (RetV (Q4.V ((Q4.mk d0 d1 d2 d3).sws l) 4) W):=by
 obtain⟨r,B1⟩:=B1
 have f0:=cifits_ht (dsOk_c p0).1
 have f1:=cifits_ht (dsOk_c p1).1
 have f2:=cifits_ht (dsOk_c p2).1
 have f3:=cifits_ht (dsOk_c p3).1
 refine Run.goP (S:=Z0) ((Pack.nil.k (.agg ⟨(ciC d0).toList++(ciC d1).toList++(ciC d2).toList++(ciC d3).toList⟩) ((ciC d0).toList++(ciC d1).toList++(ciC d2).toList++(ciC d3).toList) (.s (.agg (ks 0 64)))).bL B1 l.length capL) Tryz.func15 rfl ?_
 refine Run.ln l.length 31 ?_
 refine Run.ik .gtr (l.length:Nat) 4096 false (dF (by omega)) ?_
 refine Run.cB (n:=4) (T:=147) (φs:=ringF [d0,d1,d2,d3]) (fun _ _ _ H=>frY d0 d1 d2 d3 p0 p1 p2 p3 p4) (fun cp=>?_)
 refine Run.cV [.bool (l.any badI)] kb (fun _ _ _ H=>cfL l capL (H.bL 0) (by omega)) ?_
 refine Run.kn p6 ?_
 refine Run.ln l.length 31 ?_
 refine Run.tl (l.length+1) ?_
 refine Run.lpX (ι:=Nat×Q4) [(2,.s (.o (.p 1 0))),(4,.s (.o (.p 2 0))),(6,.s (.o (.sl 3 0 4 (cp+4)))),(30,.s (.o (.ls 0 l.length capL))),(31,.s (.o (.k 0))),(32,.s (.o (.k 1)))]
  [⟨3,[mkL ((intsC l).size+r.length) (intsC l)],false,none,false⟩,⟨30,ks 2 64,true,none,false⟩,⟨30,Q4.z.map At.c,true,none,false⟩,⟨147,mkT::vs 0 16,true,none,false⟩] 66 16
  (fun x=>[.int .i64 (l.length:Nat),.int .i64 (x.1:Nat)]++x.2.C) (fun x=>ringF [x.2.a,x.2.b,x.2.c,x.2.d])
  (fun r x=>x.1+r=l.length+1∧x.1≤l.length∧x.2.sm∧x.2.sws (l.drop x.1)=(Q4.mk d0 d1 d2 d3).sws l) ?_ (fun L=>?_)
 · intro r x h IH
   obtain⟨i,a,b,c,d⟩:=x
   obtain⟨h1,h2,h3,h4⟩:=h
   obtain⟨ha,hb,hc,hd⟩:=id h3
   dsimp only at h1 h2 h4 ha hb hc hd
   by_cases hi:i<l.length
   · obtain⟨r', rfl⟩:∃ r', r=r'+1:=⟨r-1,by omega⟩
     refine Run.ik .lss i (l.length:Nat) true (dT (by omega)) ?_
     refine Run.li 0 l.length capL i 1 3 31 [.int .i64 (l.getD i 0)] kb (intsC l) hi (intsC_at hi) ?_
     rcases bad4 (all_at p6 hi) with hv|hv|hv|hv
     · refine Run.ki 66 (v:=.int .i64 0) (congrArg (Value.int .i64) hv) ?_
       have g0:=swp_ht a b c d a
       refine Run.cR spRing (fun _ _ _ H=>swp0 cp a b c d (H.br 3) (RingP.mk (H.f 0) (H.f 1) (H.f 2) (H.f 3)) (RingP.mk (H.f 4) (H.f 5) (H.f 6) (H.f 7)) (RingP.mk (H.f 8) (H.f 9) (H.f 10) (H.f 11)) (RingP.mk (H.f 12) (H.f 13) (H.f 14) (H.f 15)) (by omega) (by omega) (by omega) (by omega)) ?_
       refine Run.sm 3 0 ?_
       have e:(Q4.mk a b c d).sws (l.drop i)=if cifits (rci (Ci.swp a b c d a))=true then (Q4.mk (Ci.swp a b c d a) b c d).sws (l.drop (i+1)) else none:=by rw [drop_at hi,hv];rfl
       cases hf:cifits (rci (Ci.swp a b c d a)) with
       | true =>
         rw [if_pos hf] at e
         refine Run.cV ((ciC (Ci.swp a b c d a)).toList) (.tup [.agg (ks 0 16),.o (.c (.int .i64 0))]) (fun _ _ _ H=>dsToF (Ci.swp a b c d a) (RingP.mk (H.f 16) (H.f 17) (H.f 18) (H.f 19)) (by omega) hf) ?_
         refine Run.bi (op:=.add) (t:=3) (a:=.int .i64 i) (c:=.int .i64 1) [.int .i64 ((i+1:Nat):Int)] kb (fun w o ρ x y t' ho hx hy=>ex_iadd (wrap_62 (n:=(i:Int)+1) (by omega) (by omega)) ho hx hy) ?_
         refine Run.to far ?_
         have R:=IH r' (i+1,⟨(Ci.swp a b c d a),b,c,d⟩) rfl ⟨by dsimp only;omega,hi,⟨cifits_ht hf,hb,hc,hd⟩,by dsimp only;rw [← e];exact h4⟩
         exact Run.as (fun k=>if 0≤k∧k<4 then k+16 else k) id R (hc:=by kernel_rfl) (hk:=by kernel_rfl)
       | false =>
         rw [if_neg (by rw [hf];decide)] at e
         refine Run.cV ((rciC rzCi).toList) (.tup [.agg (ks 0 16),.o (.c (.int .i64 4))]) (fun _ _ _ H=>dsToN (Ci.swp a b c d a) (RingP.mk (H.f 16) (H.f 17) (H.f 18) (H.f 19)) (by omega) hf) ?_
         rw [← h4,e]
         exact Run.rV rfl
     · refine Run.ki 66 (v:=.int .i64 1) (congrArg (Value.int .i64) hv) ?_
       have g0:=swp_ht a b c d b
       refine Run.cR spRing (fun _ _ _ H=>swp1 cp a b c d (H.br 3) (RingP.mk (H.f 0) (H.f 1) (H.f 2) (H.f 3)) (RingP.mk (H.f 4) (H.f 5) (H.f 6) (H.f 7)) (RingP.mk (H.f 8) (H.f 9) (H.f 10) (H.f 11)) (RingP.mk (H.f 12) (H.f 13) (H.f 14) (H.f 15)) (by omega) (by omega) (by omega) (by omega)) ?_
       refine Run.sm 3 4 ?_
       have e:(Q4.mk a b c d).sws (l.drop i)=if cifits (rci (Ci.swp a b c d b))=true then (Q4.mk a (Ci.swp a b c d b) c d).sws (l.drop (i+1)) else none:=by rw [drop_at hi,hv];rfl
       cases hf:cifits (rci (Ci.swp a b c d b)) with
       | true =>
         rw [if_pos hf] at e
         refine Run.cV ((ciC (Ci.swp a b c d b)).toList) (.tup [.agg (ks 0 16),.o (.c (.int .i64 0))]) (fun _ _ _ H=>dsToF (Ci.swp a b c d b) (RingP.mk (H.f 16) (H.f 17) (H.f 18) (H.f 19)) (by omega) hf) ?_
         refine Run.bi (op:=.add) (t:=3) (a:=.int .i64 i) (c:=.int .i64 1) [.int .i64 ((i+1:Nat):Int)] kb (fun w o ρ x y t' ho hx hy=>ex_iadd (wrap_62 (n:=(i:Int)+1) (by omega) (by omega)) ho hx hy) ?_
         refine Run.to far ?_
         have R:=IH r' (i+1,⟨a,(Ci.swp a b c d b),c,d⟩) rfl ⟨by dsimp only;omega,hi,⟨ha,cifits_ht hf,hc,hd⟩,by dsimp only;rw [← e];exact h4⟩
         exact Run.as (fun k=>if 4≤k∧k<8 then k+12 else k) id R (hc:=by kernel_rfl) (hk:=by kernel_rfl)
       | false =>
         rw [if_neg (by rw [hf];decide)] at e
         refine Run.cV ((rciC rzCi).toList) (.tup [.agg (ks 0 16),.o (.c (.int .i64 4))]) (fun _ _ _ H=>dsToN (Ci.swp a b c d b) (RingP.mk (H.f 16) (H.f 17) (H.f 18) (H.f 19)) (by omega) hf) ?_
         rw [← h4,e]
         exact Run.rV rfl
     · refine Run.ki 66 (v:=.int .i64 2) (congrArg (Value.int .i64) hv) ?_
       have g0:=swp_ht a b c d c
       refine Run.cR spRing (fun _ _ _ H=>swp2 cp a b c d (H.br 3) (RingP.mk (H.f 0) (H.f 1) (H.f 2) (H.f 3)) (RingP.mk (H.f 4) (H.f 5) (H.f 6) (H.f 7)) (RingP.mk (H.f 8) (H.f 9) (H.f 10) (H.f 11)) (RingP.mk (H.f 12) (H.f 13) (H.f 14) (H.f 15)) (by omega) (by omega) (by omega) (by omega)) ?_
       refine Run.sm 3 8 ?_
       have e:(Q4.mk a b c d).sws (l.drop i)=if cifits (rci (Ci.swp a b c d c))=true then (Q4.mk a b (Ci.swp a b c d c) d).sws (l.drop (i+1)) else none:=by rw [drop_at hi,hv];rfl
       cases hf:cifits (rci (Ci.swp a b c d c)) with
       | true =>
         rw [if_pos hf] at e
         refine Run.cV ((ciC (Ci.swp a b c d c)).toList) (.tup [.agg (ks 0 16),.o (.c (.int .i64 0))]) (fun _ _ _ H=>dsToF (Ci.swp a b c d c) (RingP.mk (H.f 16) (H.f 17) (H.f 18) (H.f 19)) (by omega) hf) ?_
         refine Run.bi (op:=.add) (t:=3) (a:=.int .i64 i) (c:=.int .i64 1) [.int .i64 ((i+1:Nat):Int)] kb (fun w o ρ x y t' ho hx hy=>ex_iadd (wrap_62 (n:=(i:Int)+1) (by omega) (by omega)) ho hx hy) ?_
         refine Run.to far ?_
         have R:=IH r' (i+1,⟨a,b,(Ci.swp a b c d c),d⟩) rfl ⟨by dsimp only;omega,hi,⟨ha,hb,cifits_ht hf,hd⟩,by dsimp only;rw [← e];exact h4⟩
         exact Run.as (fun k=>if 8≤k∧k<12 then k+8 else k) id R (hc:=by kernel_rfl) (hk:=by kernel_rfl)
       | false =>
         rw [if_neg (by rw [hf];decide)] at e
         refine Run.cV ((rciC rzCi).toList) (.tup [.agg (ks 0 16),.o (.c (.int .i64 4))]) (fun _ _ _ H=>dsToN (Ci.swp a b c d c) (RingP.mk (H.f 16) (H.f 17) (H.f 18) (H.f 19)) (by omega) hf) ?_
         rw [← h4,e]
         exact Run.rV rfl
     · refine Run.ki 66 (v:=.int .i64 3) (congrArg (Value.int .i64) hv) ?_
       have g0:=swp_ht a b c d d
       refine Run.cR spRing (fun _ _ _ H=>swp3 cp a b c d (H.br 3) (RingP.mk (H.f 0) (H.f 1) (H.f 2) (H.f 3)) (RingP.mk (H.f 4) (H.f 5) (H.f 6) (H.f 7)) (RingP.mk (H.f 8) (H.f 9) (H.f 10) (H.f 11)) (RingP.mk (H.f 12) (H.f 13) (H.f 14) (H.f 15)) (by omega) (by omega) (by omega) (by omega)) ?_
       refine Run.sm 3 12 ?_
       have e:(Q4.mk a b c d).sws (l.drop i)=if cifits (rci (Ci.swp a b c d d))=true then (Q4.mk a b c (Ci.swp a b c d d)).sws (l.drop (i+1)) else none:=by rw [drop_at hi,hv];rfl
       cases hf:cifits (rci (Ci.swp a b c d d)) with
       | true =>
         rw [if_pos hf] at e
         refine Run.cV ((ciC (Ci.swp a b c d d)).toList) (.tup [.agg (ks 0 16),.o (.c (.int .i64 0))]) (fun _ _ _ H=>dsToF (Ci.swp a b c d d) (RingP.mk (H.f 16) (H.f 17) (H.f 18) (H.f 19)) (by omega) hf) ?_
         refine Run.bi (op:=.add) (t:=3) (a:=.int .i64 i) (c:=.int .i64 1) [.int .i64 ((i+1:Nat):Int)] kb (fun w o ρ x y t' ho hx hy=>ex_iadd (wrap_62 (n:=(i:Int)+1) (by omega) (by omega)) ho hx hy) ?_
         refine Run.to far ?_
         have R:=IH r' (i+1,⟨a,b,c,(Ci.swp a b c d d)⟩) rfl ⟨by dsimp only;omega,hi,⟨ha,hb,hc,cifits_ht hf⟩,by dsimp only;rw [← e];exact h4⟩
         exact Run.as (fun k=>if 12≤k∧k<16 then k+4 else k) id R (hc:=by kernel_rfl) (hk:=by kernel_rfl)
       | false =>
         rw [if_neg (by rw [hf];decide)] at e
         refine Run.cV ((rciC rzCi).toList) (.tup [.agg (ks 0 16),.o (.c (.int .i64 4))]) (fun _ _ _ H=>dsToN (Ci.swp a b c d d) (RingP.mk (H.f 16) (H.f 17) (H.f 18) (H.f 19)) (by omega) hf) ?_
         rw [← h4,e]
         exact Run.rV rfl
   · obtain rfl:i=l.length:=by omega
     refine Run.ik .lss (l.length:Nat) (l.length:Nat) false (dF (by omega)) ?_
     rw [← h4,List.drop_length]
     exact Run.rV rfl
 · refine Run.to far ?_
   exact Run.as (fun k=>k) (fun k=>k) (L (l.length+1) (0,⟨d0,d1,d2,d3⟩) ⟨by dsimp only;omega,by dsimp only;omega,⟨f0,f1,f2,f3⟩,rfl⟩) (hc:=by kernel_rfl) (hk:=by kernel_rfl)
@[reducible] def gtB(p q:Rat):Bool:=decide (0<icmp (p.num*(q.den:Int)) (q.num*(p.den:Int)))
@[reducible] def geB(p q:Rat):Bool:=decide (0≤icmp (p.num*(q.den:Int)) (q.num*(p.den:Int)))
theorem gt_self(p:Rat):gtB p p=false:=decide_eq_false fun h=>by have:=icmp_pos.1 h;omega
def Q4.top(x:Q4):Int :=
 if gtB x.b.a x.a.a=true then (if gtB x.c.a x.b.a=true then (if gtB x.d.a x.c.a=true then 3 else 2) else (if gtB x.d.a x.b.a=true then 3 else 1))
 else (if gtB x.c.a x.a.a=true then (if gtB x.d.a x.c.a=true then 3 else 2) else (if gtB x.d.a x.a.a=true then 3 else 0))
def rootF:Nat→Q4→List Int→Option (Q4×List Int)×Int
 | 0,_,_=>(none,0)
 | n+1,x,l=>if geB ((x.sw x.top).at x.top).a (x.at x.top).a=true then (some (x,l),0) else if l.length=4096 then (none,3) else
  if cifits (rci ((x.sw x.top).at x.top))=true then rootF n (x.sw x.top) (l++[x.top]) else (none,4)
theorem rootF_s(n:Nat)(x:Q4)(l:List Int){i:Int}(h:x.top=i):rootF (n+1) x l=if geB ((x.sw i).at i).a (x.at i).a=true then (some (x,l),0) else if l.length=4096 then (none,3) else
  if cifits (rci ((x.sw i).at i))=true then rootF n (x.sw i) (l++[i]) else (none,4):=by subst h;rw [rootF]
def RootPost(R:Option (Q4×List Int)×Int)(W:World):Ending→World→Prop:=match R with
 | (some (y,[]),_)=>RetV (.tuple #[.agg ⟨y.C⟩,.slice none 0 0,.int .i64 0]) W
 | (some (y,i::l),_)=>RetL 3 1 (l.length+1) (intsC (i::l)) (fun s=>.tuple #[.agg ⟨y.C⟩,s,.int .i64 0]) W
 | (none,k)=>RetV (.tuple #[.agg ⟨Q4.z⟩,.slice none 0 0,.int .i64 k]) W
theorem sw_0(x:Q4):x.sw 0=⟨Ci.swp x.a x.b x.c x.d x.a,x.b,x.c,x.d⟩:=by unfold Q4.sw;rw [if_pos rfl]
theorem sw_1(x:Q4):x.sw 1=⟨x.a,Ci.swp x.a x.b x.c x.d x.b,x.c,x.d⟩:=by unfold Q4.sw;rw [if_neg (by decide),if_pos rfl]
theorem sw_2(x:Q4):x.sw 2=⟨x.a,x.b,Ci.swp x.a x.b x.c x.d x.c,x.d⟩:=by unfold Q4.sw;rw [if_neg (by decide),if_neg (by decide),if_pos rfl]
theorem sw_3(x:Q4):x.sw 3=⟨x.a,x.b,x.c,Ci.swp x.a x.b x.c x.d x.d⟩:=by unfold Q4.sw;rw [if_neg (by decide),if_neg (by decide),if_neg (by decide)]
theorem at_0(x:Q4):x.at 0=x.a:=by unfold Q4.at;rw [if_pos rfl]
theorem at_1(x:Q4):x.at 1=x.b:=by unfold Q4.at;rw [if_neg (by decide),if_pos rfl]
theorem at_2(x:Q4):x.at 2=x.c:=by unfold Q4.at;rw [if_neg (by decide),if_neg (by decide),if_pos rfl]
theorem at_3(x:Q4):x.at 3=x.d:=by unfold Q4.at;rw [if_neg (by decide),if_neg (by decide),if_neg (by decide)]
theorem rp_L{fn:Func}{R:Option (Q4×List Int)×Int}{y:Q4}{L:List Int}{n:Nat}(e:R=(some (y,L),0))(h:n=L.length)(h0:0<n):bodyPost Tryz.prog fn (RootPost R W)=bodyPost Tryz.prog fn (RetL 3 1 n (intsC L) (fun s=>.tuple #[.agg ⟨y.C⟩,s,.int .i64 0]) W):=by
 subst e;subst h
 cases L with
 | nil=>exact absurd h0 (by decide)
 | cons i l=>rfl
theorem rp_0{fn:Func}{R:Option (Q4×List Int)×Int}{y:Q4}(e:R=(some (y,[]),0)):bodyPost Tryz.prog fn (RootPost R W)=bodyPost Tryz.prog fn (RetV (.tuple #[.agg ⟨y.C⟩,.slice none 0 0,.int .i64 0]) W):=by subst e;rfl
theorem rp_n{fn:Func}{R:Option (Q4×List Int)×Int}{k:Int}(e:R=(none,k)):bodyPost Tryz.prog fn (RootPost R W)=bodyPost Tryz.prog fn (RetV (.tuple #[.agg ⟨Q4.z⟩,.slice none 0 0,.int .i64 k]) W):=by subst e;rfl
theorem Run.pq{P:Program}{κ:List Value}{Φ:List VP}{Q1 Q2:Exit→Act→World→Prop}{m:MS}(h:Q1=Q2)(R:Run P S W κ Φ Q2 m):Run P S W κ Φ Q1 m:=h ▸ R
end Go.Proofs.YtcdbmjnipaochaaGreat
