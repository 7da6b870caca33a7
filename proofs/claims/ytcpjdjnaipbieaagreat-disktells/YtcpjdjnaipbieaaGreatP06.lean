import Derived.Test.YtcpjdjnaipbieaaGreatP05
set_option linter.unusedVariables false
set_option linter.unusedSimpArgs false
namespace Go.Proofs.YtcpjdjnaipbieaaGreat
open Go.RowKit Rgn Eng
set_option maxHeartbeats 4000000
set_option maxRecDepth 100000
variable {S:Nat→Prop} {W:World}
theorem eRatOk (x:Rat) (p0:fits (rf x)=true):Calls Tryz.prog 198 #[fV x] W (Ret (RatP x) S W):=by
 have n0:=hi_num x
 have n2:=hi_den x
 have f0:=efits_le p0
 have f1:ht (Rat.divInt x.num (x.den:Int))≤8200:=by rw [fr_self];exact f0
 have f2:=hi_num (Rat.divInt x.num (x.den:Int))
 have f3:=hi_den (Rat.divInt x.num (x.den:Int))
 have f4:=fits_two p0
 refine Run.goP (S:=S) (Pack.nil.k (fV x) (fC x).toList (.s (.agg (ks 0 4)))) Tryz.func198 rfl ?_
 refine Run.cV [.bool (wformed (rw x.num))] kb (fun _ _ _ H=>eFormed (rw x.num)) ?_
 refine Run.kn (wformed_rw x.num) ?_
 refine Run.cV [.bool (wformed (rw (x.den:Int)))] kb (fun _ _ _ H=>eFormed (rw (x.den:Int))) ?_
 refine Run.kn (wformed_rw (x.den:Int)) ?_
 refine Run.kn (den_nn x) ?_
 refine Run.bi (op:=.eql) (t:=9) (a:=.string (bS (x.den:Int).natAbs)) (c:=.string ⟨#[]⟩) [] (cb false) (fun w o ρ u v t' ho hx hy=>ex_seq Tryz.underlying9 _ (den_na x) ho hx hy) ?_
 refine Run.sl (bS x.num.natAbs) 9 Tryz.underlying9 ?_
 refine Run.ik .gtr (((bS x.num.natAbs).size:Nat):Int) 1024 false (congrArg some (decide_eq_false (show ¬ (1024:Int)<(((bS x.num.natAbs).size:Nat):Int) by have:=f4.1;omega))) ?_
 refine Run.sl (bS (x.den:Int).natAbs) 9 Tryz.underlying9 ?_
 refine Run.ik .gtr (((bS (x.den:Int).natAbs).size:Nat):Int) 1024 false (congrArg some (decide_eq_false (show ¬ (1024:Int)<(((bS (x.den:Int).natAbs).size:Nat):Int) by have:=f4.2;omega))) ?_
 refine Run.dr ?_
 refine RunD.cR spInto (fun _ _ _ H=>eWhole x.num (by omega)) ?_
 refine RunD.cR spInto (fun _ _ _ H=>eWhole (x.den:Int) (by omega)) ?_
 refine RunD.en ?_
 refine Run.cO 1 softRat (fun _ _ _ H=>qSetFrac x.num (x.den:Int) (RatP.blk (H.oz 1)) (IntO.p (anyV (H.f 0))) (IntO.p (anyV (H.f 1))) (by omega) (den_ne x)) ?_
 refine Run.se 1 ?_
 refine Run.cR spInto (fun _ _ _ H=>qNum (Rat.divInt x.num (x.den:Int)) (H.s 1) (by omega)) ?_
 refine Run.cV [.int .i64 (icmp (Rat.divInt x.num (x.den:Int)).num x.num)] kb (fun _ _ _ H=>bCmp (Rat.divInt x.num (x.den:Int)).num x.num (IntO.p (H.f 3)) (IntO.p (H.f 0)) (by omega)) ?_
 refine Run.ik .neq (icmp (Rat.divInt x.num (x.den:Int)).num x.num) 0 false (congrArg some (back_num x)) ?_
 refine Run.cR spInto (fun _ _ _ H=>qDenom (Rat.divInt x.num (x.den:Int)) (H.s 1) (by omega)) ?_
 refine Run.cV [.int .i64 (icmp ((Rat.divInt x.num (x.den:Int)).den:Int) (x.den:Int))] kb (fun _ _ _ H=>bCmp ((Rat.divInt x.num (x.den:Int)).den:Int) (x.den:Int) (IntO.p (H.f 4)) (IntO.p (H.f 1)) (by omega)) ?_
 refine Run.ik .neq (icmp ((Rat.divInt x.num (x.den:Int)).den:Int) (x.den:Int)) 0 false (congrArg some (back_den x)) ?_
 have e:RatP x=RatP (Rat.divInt x.num (x.den:Int)):=by rw [fr_self]
 rw [e]
 exact Run.rR (fun _ _ _ H=>H.s 1)
end Go.Proofs.YtcpjdjnaipbieaaGreat
namespace Go.Proofs.YtcpjdjnaipbieaaGreat
open Go.RowKit Rgn
set_option maxHeartbeats 4000000
set_option maxRecDepth 100000
variable {S:Nat→Prop} {W:World}
theorem eOf (x:Cx) (p0:gfits (rg x)=true) :
  Calls Tryz.prog 197 #[gV x] W (Ret (VP.tup (NumP x) (VP.is (.bool true))) S W):=by
 have bel:=b0 W
 go_enter Tryz.func197,Tryz.ntmps197
 refine gs 3 (Amb S W) fun _ K1=>?_
 refine .bx rfl (fun H=>H.v 0 (gV x)) ?_
 refine .al rfl (#[.pointer none,.pointer none]) ?_
 refine .mc rfl ?_
 refine .dk (fun u=>gV x::sq u 0 3 (us 17)) K1 bel fun u1 w1 D bel=>?_
 obtain ⟨b2,E1_0,A2,B2⟩:=D.nw 0
 obtain ⟨b3,E1_1,A3,B3⟩:=D.nw 1
 have E1_2:=D.q 2
 have N2_3:=D.n2 0 1 E1_0 E1_1
 clear D
 refine gd 8 (Amb S W) fun _ K4=>?_
 refine .fz rfl 1 0 E1_0 ?_
 refine .lp rfl 0 (fC x.re) B2 ?_
 refine .cR rfl [] Tryz.func198 (fun H=>⟨_,ar1 (H.g 7 1),eRatOk _ (by first|exact (and_tt p0).1|exact (and_tt p0).2)⟩) ?_
 refine .fz rfl 1 4 E1_0 ?_
 refine .lp rfl 3 (fC x.im) B2 ?_
 refine .cR rfl [] Tryz.func198 (fun H=>⟨_,ar1 (H.g 10 4),eRatOk _ (by first|exact (and_tt p0).1|exact (and_tt p0).2)⟩) ?_
 refine .mn rfl 2 [2] ?_
 refine .mn rfl 5 [5] ?_
 refine .dk (fun u=>gV x::sq u1 0 3 (u 6::u 7::sq u 0 6 (us 9))) K4 bel fun u2 w2 D bel=>?_
 obtain ⟨b5,E2_6,L5,F5⟩:=RatP.elim (D.rr 6)
 obtain ⟨b6,E2_7,L6,F6⟩:=RatP.elim (D.rr 7)
 replace B3:=D.k B3
 clear D
 refine gs1 11 (Amb S W) 9 B3 fun _ K7=>?_
 refine .mz rfl 4 E2_6 ?_
 refine .mz rfl 5 E2_7 ?_
 refine .e rfl (V:=.agg #[pt b5,pt b6]) (fun H=>by have e12:=H.g 12 0;have e13:=H.g 13 1;clear H;go_simp) ?_
 refine .mz rfl 4 E2_6 ?_
 refine .e rfl (V:=.bool true) (fun H=>x_pnN (H.g 15 3) (H.c _)) ?_
 refine .mv rfl 4 ?_
 refine .mz rfl 5 E2_7 ?_ (hg:=gq 5 rfl)
 refine .e rfl (V:=.bool true) (fun H=>x_pnN (H.g 18 6) (H.c _)) ?_ (hg:=gq 5 rfl)
 refine .e rfl (fun H=>x_pkT (H.g 17 5) (H.g 19 7)) ?_
 refine .s1 rfl B3 (fun H=>⟨H.z 2 E1_1,H.g 14 2⟩) ?_
 refine .mv rfl 8 ?_
 refine .d1 (fun u=>gV x::u1 0::u1 1::u 10::u2 6::u2 7::sq u2 0 6 (sq u 0 9 [])) K7 bel A3 fun u3 w3 D bel=>?_
 have E3_10:=D.q 10
 replace B3:=D.ol 9
 replace F5:=D.o L5 F5
 replace F6:=D.o L6 F6
 clear D
 refine wp_ret ?_
 refine ret_ok rfl (by exact results_mix rfl (by exact E1_1) B3 Tryz.underlying178 rfl (by kernel_rfl) (by exact E3_10)) ⟨_,rfl,?_,bel⟩
 exact ⟨_,_,rfl,(NumP.mk (RatP.n (VP.at F5 L5)) (RatP.n (VP.at F6 L6))),rfl⟩
end Go.Proofs.YtcpjdjnaipbieaaGreat
namespace Go.Proofs.YtcpjdjnaipbieaaGreat
open Go.RowKit Rgn Eng
set_option maxHeartbeats 8000000
set_option maxRecDepth 100000
variable {S:Nat→Prop} {W:World}
theorem eReal {v0:Value} (x:Rat) (t0:(RatP x).p S v0 W):Calls Tryz.prog 176 #[v0] W (Ret (NumP ⟨x,0⟩) S W):=by
 refine Run.goP (S:=S) (Pack.nil.s spRat t0) Tryz.func176 rfl ?_
 exact Run.rR (fun _ _ _ H=>NumP.mk (RatP.n (H.f 0)) (RatN.nil rfl))
theorem eTwice {v0:Value} (x:Rat) (t0:(RatP x).p S v0 W) (p0:ht x≤34359738368):Calls Tryz.prog 244 #[v0] W (Ret (RatP (x+x)) S W):=by
 refine Run.goP (S:=S) (Pack.nil.s spRat t0) Tryz.func244 rfl ?_
 refine Run.cO 0 softRat (fun _ _ _ H=>qAdd x x (RatP.blk (H.oz 0)) (anyV (H.f 0)) (anyV (H.f 0)) (by first|omega|(dsimp only at *;omega))) ?_
 exact Run.rR (fun _ _ _ H=>H.s 0)
theorem eSum2 {v0:Value} (x:Rat) (y:Rat) (t0:(RatsP [x,y]).p S v0 W) (p0:ht x+ht y≤34359738000):Calls Tryz.prog 227 #[v0] W (Ret (RatP ((0:Rat)+x+y)) Z0 W):=by
 have z0:=ht_zero
 have h1:=ht_add 0 x
 obtain ⟨b0,ys0,rfl,B0,F0⟩:=ratsCells2 t0
 refine Run.goP (S:=S) (Pack.nil.bv B0 (some 2) 2 F0) Tryz.func227 rfl ?_
 refine Run.cO 1 softRat (fun _ _ _ H=>qAdd (0:Rat) x (RatP.blk (H.oz 1)) (anyV (H.oz 1)) (anyV (H.f 0)) (by first|omega|(dsimp only at *;omega))) ?_
 refine Run.cO 1 softRat (fun _ _ _ H=>qAdd ((0:Rat)+x) y (RatP.blk (q:=(0:Rat)+x) (H.o 1)) (anyV (H.o 1)) (anyV (H.f 1)) (by first|omega|(dsimp only at *;omega))) ?_
 exact Run.rN (φ:=RatP ((0:Rat)+x+y)) 1 (fun _ _ _ H=>⟨H.ow 1,H.o 1⟩)
theorem eSum3 {v0:Value} (x:Rat) (y:Rat) (z:Rat) (t0:(RatsP [x,y,z]).p S v0 W) (p0:ht x+ht y+ht z≤34359738000):Calls Tryz.prog 227 #[v0] W (Ret (RatP ((0:Rat)+x+y+z)) Z0 W):=by
 have z0:=ht_zero
 have h1:=ht_add 0 x
 have h2:=ht_add (0+x) y
 obtain ⟨b0,ys0,rfl,B0,F0⟩:=ratsCells3 t0
 refine Run.goP (S:=S) (Pack.nil.bv B0 (some 3) 3 F0) Tryz.func227 rfl ?_
 refine Run.cO 1 softRat (fun _ _ _ H=>qAdd (0:Rat) x (RatP.blk (H.oz 1)) (anyV (H.oz 1)) (anyV (H.f 0)) (by first|omega|(dsimp only at *;omega))) ?_
 refine Run.cO 1 softRat (fun _ _ _ H=>qAdd ((0:Rat)+x) y (RatP.blk (q:=(0:Rat)+x) (H.o 1)) (anyV (H.o 1)) (anyV (H.f 1)) (by first|omega|(dsimp only at *;omega))) ?_
 refine Run.cO 1 softRat (fun _ _ _ H=>qAdd (((0:Rat)+x)+y) z (RatP.blk (q:=((0:Rat)+x)+y) (H.o 1)) (anyV (H.o 1)) (anyV (H.f 2)) (by first|omega|(dsimp only at *;omega))) ?_
 exact Run.rN (φ:=RatP ((0:Rat)+x+y+z)) 1 (fun _ _ _ H=>⟨H.ow 1,H.o 1⟩)
theorem rgNorm {v0:Value} (c:Ci) (t0:(RingP c).p S v0 W) (p0:ht c.a+ht c.b.re+ht c.b.im+ht c.c≤1073741824) (p1:c.flat=false):Calls Tryz.prog 144 #[v0] W (Ret (RingP c.nrm) S W):=by
 have h1:=ht_inv c.a
 have h2:=ht_inv c.b.re
 have h3:=ht_inv c.b.im
 refine Run.goP (S:=S) (Pack.nil.s spRing t0) Tryz.func144 rfl ?_
 refine Run.cR sp2Rat (fun _ _ _ H=>eParts c.b (NumP.mk (H.f 1) (H.f 2))) ?_
 refine Run.cV [.int .i64 c.a.num.sign] kb (fun _ _ _ H=>qSign c.a (H.f 0)) ?_
 refine Run.ic c.a.num.sign 0 (c.a.num.sign == 0) ?_
 refine (Bool.eq_false_or_eq_true (c.a.num.sign == 0)).elim (fun c1=>?_) (fun c1=>?_)
 · refine Run.kn c1 ?_
   refine Run.cV [.int .i64 c.b.re.num.sign] kb (fun _ _ _ H=>qSign c.b.re (H.f 4)) ?_
   refine Run.ic c.b.re.num.sign 0 (c.b.re.num.sign == 0) ?_
   refine (Bool.eq_false_or_eq_true (c.b.re.num.sign == 0)).elim (fun c2=>?_) (fun c2=>?_)
   · refine Run.kn c2 ?_
     refine Run.cO 3 softRat (fun _ _ _ H=>qInv c.b.im (RatP.blk (H.oz 3)) (anyV (H.f 5)) (by first|omega|(dsimp only at *;omega)|exact nz_2 p1 c1 c2|exact sgn_no c2|exact sgn_no c1) (by first|omega|(dsimp only at *;omega)|exact nz_2 p1 c1 c2|exact sgn_no c2|exact sgn_no c1)) ?_
     refine Run.dr ?_
     refine RunD.cRs [3] spRat (fun _ _ _ H=>eMul c.a (c.b.im⁻¹) (RatP.n (H.f 0)) (RatP.n (H.s 3)) (by first|omega|(dsimp only at *;omega)|exact nz_2 p1 c1 c2|exact sgn_no c2|exact sgn_no c1)) ?_
     refine RunD.cRs [3] spNum (fun _ _ _ H=>eScale c.b (c.b.im⁻¹) (NumP.mk (H.f 1) (H.f 2)) (RatP.n (H.s 3)) (by first|omega|(dsimp only at *;omega)|exact nz_2 p1 c1 c2|exact sgn_no c2|exact sgn_no c1)) ?_
     refine RunD.cRs [3] spRat (fun _ _ _ H=>eMul c.c (c.b.im⁻¹) (RatP.n (H.f 3)) (RatP.n (H.s 3)) (by first|omega|(dsimp only at *;omega)|exact nz_2 p1 c1 c2|exact sgn_no c2|exact sgn_no c1)) ?_
     refine RunD.en ?_
     exact Run.rR (fun _ _ _ H=>VPe (φ:=RingP) (nrm_2 c1 c2) (RingP.mk (H.f 7) (H.f 8) (H.f 9) (H.f 10)))
   · refine Run.kn c2 ?_
     refine Run.cO 3 softRat (fun _ _ _ H=>qInv c.b.re (RatP.blk (H.oz 3)) (anyV (H.f 4)) (by first|omega|(dsimp only at *;omega)|exact nz_2 p1 c1 c2|exact sgn_no c2|exact sgn_no c1) (by first|omega|(dsimp only at *;omega)|exact nz_2 p1 c1 c2|exact sgn_no c2|exact sgn_no c1)) ?_
     refine Run.dr ?_
     refine RunD.cRs [3] spRat (fun _ _ _ H=>eMul c.a (c.b.re⁻¹) (RatP.n (H.f 0)) (RatP.n (H.s 3)) (by first|omega|(dsimp only at *;omega)|exact nz_2 p1 c1 c2|exact sgn_no c2|exact sgn_no c1)) ?_
     refine RunD.cRs [3] spNum (fun _ _ _ H=>eScale c.b (c.b.re⁻¹) (NumP.mk (H.f 1) (H.f 2)) (RatP.n (H.s 3)) (by first|omega|(dsimp only at *;omega)|exact nz_2 p1 c1 c2|exact sgn_no c2|exact sgn_no c1)) ?_
     refine RunD.cRs [3] spRat (fun _ _ _ H=>eMul c.c (c.b.re⁻¹) (RatP.n (H.f 3)) (RatP.n (H.s 3)) (by first|omega|(dsimp only at *;omega)|exact nz_2 p1 c1 c2|exact sgn_no c2|exact sgn_no c1)) ?_
     refine RunD.en ?_
     exact Run.rR (fun _ _ _ H=>VPe (φ:=RingP) (nrm_1 c1 c2) (RingP.mk (H.f 7) (H.f 8) (H.f 9) (H.f 10)))
 · refine Run.kn c1 ?_
   refine Run.cV [.int .i64 c.a.num.sign] kb (fun _ _ _ H=>qSign c.a (H.f 0)) ?_
   refine Run.ic c.a.num.sign 0 (c.a.num.sign == 0) ?_
   refine Run.kn c1 ?_
   refine Run.cO 3 softRat (fun _ _ _ H=>qInv c.a (RatP.blk (H.oz 3)) (anyV (H.f 0)) (by first|omega|(dsimp only at *;omega)|exact nz_2 p1 c1 _|exact sgn_no _|exact sgn_no c1) (by first|omega|(dsimp only at *;omega)|exact nz_2 p1 c1 _|exact sgn_no _|exact sgn_no c1)) ?_
   refine Run.dr ?_
   refine RunD.cRs [3] spRat (fun _ _ _ H=>eMul c.a (c.a⁻¹) (RatP.n (H.f 0)) (RatP.n (H.s 3)) (by first|omega|(dsimp only at *;omega)|exact nz_2 p1 c1 _|exact sgn_no _|exact sgn_no c1)) ?_
   refine RunD.cRs [3] spNum (fun _ _ _ H=>eScale c.b (c.a⁻¹) (NumP.mk (H.f 1) (H.f 2)) (RatP.n (H.s 3)) (by first|omega|(dsimp only at *;omega)|exact nz_2 p1 c1 _|exact sgn_no _|exact sgn_no c1)) ?_
   refine RunD.cRs [3] spRat (fun _ _ _ H=>eMul c.c (c.a⁻¹) (RatP.n (H.f 3)) (RatP.n (H.s 3)) (by first|omega|(dsimp only at *;omega)|exact nz_2 p1 c1 _|exact sgn_no _|exact sgn_no c1)) ?_
   refine RunD.en ?_
   exact Run.rR (fun _ _ _ H=>VPe (φ:=RingP) (nrm_0 c1) (RingP.mk (H.f 7) (H.f 8) (H.f 9) (H.f 10)))
theorem eNeg {v0:Value} (x:Cx) (t0:(NumP x).p S v0 W) (p0:ht x.re+ht x.im≤8589934592):Calls Tryz.prog 138 #[v0] W (Ret (NumP x.neg) S W):=by
 refine Run.goP (S:=S) (Pack.nil.s spNum t0) Tryz.func138 rfl ?_
 refine Run.dr ?_
 refine RunD.cR spRat (fun _ _ _ H=>eRat x.re (H.f 0)) ?_
 refine RunD.cO 2 softRat (fun _ _ _ H=>qNeg x.re (RatP.blk (H.oz 2)) (anyV (H.f 2)) (by omega)) ?_
 refine RunD.cR spRat (fun _ _ _ H=>eRat x.im (H.f 1)) ?_
 refine RunD.cO 3 softRat (fun _ _ _ H=>qNeg x.im (RatP.blk (H.oz 3)) (anyV (H.f 4)) (by omega)) ?_
 refine RunD.en ?_
 exact Run.rR (fun _ _ _ H=>NumP.mk (RatP.n (H.s 2)) (RatP.n (H.s 3)))
end Go.Proofs.YtcpjdjnaipbieaaGreat
namespace Go.Proofs.YtcpjdjnaipbieaaGreat
open Go.RowKit Rgn
theorem gerr_1 {x:Cx} (h:((gerr x) != 0)=true):gfits (rg x)=false:=by
 unfold gerr at h
 cases e:gfits (rg x) with
 | false=>rfl
 | true=>rw [if_pos e] at h;exact absurd h (by decide)
theorem gerr_0 {x:Cx} (h:((gerr x) != 0)=false):gfits (rg x)=true:=by
 unfold gerr at h
 cases e:gfits (rg x) with
 | true=>rfl
 | false=>rw [if_neg (by rw [e];decide)] at h;exact absurd h (by decide)
theorem cifits_no {c:Ci} (h:((ferr c.a) != 0)=true∨((gerr c.b) != 0)=true∨((ferr c.c) != 0)=true):cifits (rci c)=false:=by
 show (fits (rf c.a)&&gfits (rg c.b)&&fits (rf c.c))=false
 rcases h with h|h|h
 ·rw [ferr_1 h];simp
 ·rw [gerr_1 h];simp
 ·rw [ferr_1 h];simp
theorem ccut_no {c:Ci} (h:((ferr c.a) != 0)=true∨((gerr c.b) != 0)=true∨((ferr c.c) != 0)=true):Value.tuple #[.agg zCi,.int .i64 4]=.tuple #[rciV (cicut c),.int .i64 (cierr c)]:=by
 unfold cicut cierr
 rw [if_neg (by rw [cifits_no h];decide),if_neg (by rw [cifits_no h];decide)]
theorem ccut_yes {c:Ci} (h1:((ferr c.a) != 0)=false) (h2:((gerr c.b) != 0)=false) (h3:((ferr c.c) != 0)=false):Value.tuple #[.agg #[.bool (fcut c.a).a.n,.string (fcut c.a).a.s,.bool (fcut c.a).b.n,.string (fcut c.a).b.s,.bool (gcut c.b).re.a.n,.string (gcut c.b).re.a.s,.bool (gcut c.b).re.b.n,.string (gcut c.b).re.b.s,.bool (gcut c.b).im.a.n,.string (gcut c.b).im.a.s,.bool (gcut c.b).im.b.n,.string (gcut c.b).im.b.s,.bool (fcut c.c).a.n,.string (fcut c.c).a.s,.bool (fcut c.c).b.n,.string (fcut c.c).b.s],.int .i64 0]=.tuple #[rciV (cicut c),.int .i64 (cierr c)]:=by
 have e:cifits (rci c)=true:=by
  show (fits (rf c.a)&&gfits (rg c.b)&&fits (rf c.c))=true
  rw [ferr_0 h1,gerr_0 h2,ferr_0 h3];rfl
 unfold cicut cierr fcut gcut
 rw [if_pos e,if_pos e,if_pos (ferr_0 h1),if_pos (gerr_0 h2),if_pos (ferr_0 h3)]
theorem val_eq (c:Ci) (z:Cx):(0:Rat)+c.a*z.norm+((c.b.mul z).re+(c.b.mul z).re)+c.c=c.val z:=by unfold Ci.val;rw [Rat.zero_add]
def Ci.side (c:Ci) (p:Pn):Int:=if p.inf=true then c.a.num.sign else (c.val p.z).num.sign
theorem side_1 {c:Ci} {p:Pn} (h:p.inf=true):Value.int .i64 c.a.num.sign=.int .i64 (c.side p):=by unfold Ci.side;rw [if_pos h]
theorem side_0 {c:Ci} {p:Pn} (h:p.inf=false):Value.int .i64 (c.val p.z).num.sign=.int .i64 (c.side p):=by unfold Ci.side;rw [if_neg (by rw [h];decide)]
theorem pcut_inf {p:Pn} (h:p.inf=true):Value.tuple #[.agg #[.bool true,.bool false,.string ⟨#[]⟩,.bool false,.string ⟨#[]⟩,.bool false,.string ⟨#[]⟩,.bool false,.string ⟨#[]⟩],.int .i64 0]=.tuple #[rpnV (pncut p),.int .i64 (pnerr p)]:=by
 have e:pnfits p=true:=by unfold pnfits;rw [h];rfl
 unfold pncut pnerr pnR
 rw [if_pos e,if_pos e,if_pos h]
theorem pcut_num {p:Pn} (h:p.inf=false):Value.tuple #[.agg #[.bool false,.bool (gcut p.z).re.a.n,.string (gcut p.z).re.a.s,.bool (gcut p.z).re.b.n,.string (gcut p.z).re.b.s,.bool (gcut p.z).im.a.n,.string (gcut p.z).im.a.s,.bool (gcut p.z).im.b.n,.string (gcut p.z).im.b.s],.int .i64 (gerr p.z)]=.tuple #[rpnV (pncut p),.int .i64 (pnerr p)]:=by
 unfold pncut pnerr pnR gcut gerr pnfits
 rw [h]
 cases e:gfits (rg p.z) with
 | true=>simp
 | false=>simp
def Ci.dot (c d:Ci):Rat:=(c.a*d.c+d.a*c.c)*Rat.divInt (1:Int) (2:Int)-(c.b.mul d.b.conj).re
def Ci.plus (c d:Ci):Ci:=⟨c.a+d.a,c.b.add d.b,c.c+d.c⟩
@[reducible] def Ci.times (c:Ci) (x:Rat):Ci:=⟨c.a*x,c.b.scale x,c.c*x⟩
def Ci.out (c:Ci):Ci:=⟨-c.a,c.b.neg,-c.c⟩
@[reducible] def Ci.rim (c:Ci):Ci:=⟨c.a,c.b.conj.neg,c.c⟩
def Ci.touch (c d:Ci):Bool:=decide (c.dot d=1) && !decide (c=d.out)
theorem dot_eq (c d:Ci):((0:Rat)+c.a*d.c+d.a*c.c)*Rat.divInt (1:Int) (2:Int)-(c.b.mul d.b.conj).re=c.dot d:=by unfold Ci.dot;rw [Rat.zero_add]
theorem plus_eq (c d:Ci):Ci.mk ((0:Rat)+c.a+d.a) (c.b.add d.b) ((0:Rat)+c.c+d.c)=c.plus d:=by unfold Ci.plus;rw [Rat.zero_add,Rat.zero_add]
theorem neg_one_mul (x:Rat):x*Rat.divInt (-1:Int) (1:Int)=-x:=by
 rw [divInt_one]
 show x*((-1:Int):Rat)=-x
 have:(((-1:Int)):Rat)=-1:=rfl
 rw [this];grind
theorem out_eq (c:Ci):c.times (Rat.divInt (-1:Int) (1:Int))=c.out:=by
 unfold Ci.times Ci.out
 rw [neg_one_mul,neg_one_mul,show c.b.scale (Rat.divInt (-1:Int) (1:Int))=c.b.neg from Cx.ext' (neg_one_mul _) (neg_one_mul _)]
theorem dot_ht (c d:Ci):ht (c.dot d)≤2*(ht c.a+ht c.b.re+ht c.b.im+ht c.c+(ht d.a+ht d.b.re+ht d.b.im+ht d.c))+3:=by
 have z2:ht (Rat.divInt (1:Int) (2:Int))=3:=by decide
 have h1:=ht_mul c.a d.c
 have h2:=ht_mul d.a c.c
 have h3:=hc_conj d.b
 have h4:=hc_mul c.b d.b.conj
 have h5:=ht_add (c.a*d.c) (d.a*c.c)
 have h6:=ht_mul (c.a*d.c+d.a*c.c) (Rat.divInt (1:Int) (2:Int))
 have h7:=ht_sub ((c.a*d.c+d.a*c.c)*Rat.divInt (1:Int) (2:Int)) (c.b.mul d.b.conj).re
 unfold Ci.dot
 omega
theorem out_ht (c:Ci):ht c.out.a=ht c.a∧ht c.out.b.re=ht c.b.re∧ht c.out.b.im=ht c.b.im∧ht c.out.c=ht c.c:=⟨ht_neg _,ht_neg _,ht_neg _,ht_neg _⟩
theorem divInt_11:Rat.divInt (1:Int) (1:Int)=1:=divInt_one 1
theorem touch_1 {c d:Ci} (h:(icmp ((c.dot d).num*((Rat.divInt (1:Int) (1:Int)).den:Int)) ((Rat.divInt (1:Int) (1:Int)).num*((c.dot d).den:Int)) == 0)=true):Value.bool (!decide (c=d.out))=.bool (c.touch d):=by
 rw [icmp_b,divInt_11] at h
 unfold Ci.touch;rw [h];rfl
theorem touch_0 {c d:Ci} (h:(icmp ((c.dot d).num*((Rat.divInt (1:Int) (1:Int)).den:Int)) ((Rat.divInt (1:Int) (1:Int)).num*((c.dot d).den:Int)) == 0)=false):Value.bool false=.bool (c.touch d):=by
 rw [icmp_b,divInt_11] at h
 unfold Ci.touch;rw [h];rfl
end Go.Proofs.YtcpjdjnaipbieaaGreat
namespace Go.Proofs.YtcpjdjnaipbieaaGreat
open Go.RowKit Rgn Eng
set_option maxHeartbeats 8000000
set_option maxRecDepth 100000
variable {S:Nat→Prop} {W:World}
theorem eSame {v0 v1:Value} (x:Cx) (y:Cx) (t0:(NumP x).p S v0 W) (t1:(NumP y).p S v1 W) (p0:ht x.re+ht x.im+ht y.re+ht y.im≤17179869184):Calls Tryz.prog 179 #[v0,v1] W (RetV (.bool ((x.sub y).zero)) W):=by
 have h1:=hc_sub x y
 refine Run.goP (S:=S) ((Pack.nil.s spNum t0).s spNum t1) Tryz.func179 rfl ?_
 refine Run.cR spNum (fun _ _ _ H=>eSub x y (NumP.mk (H.f 0) (H.f 1)) (NumP.mk (H.f 2) (H.f 3)) p0) ?_
 refine Run.cV [.bool ((x.sub y).zero)] kb (fun _ _ _ H=>eZero (x.sub y) (NumP.mk (H.f 4) (H.f 5))) ?_
 exact Run.rV rfl
end Go.Proofs.YtcpjdjnaipbieaaGreat
namespace Go.Proofs.YtcpjdjnaipbieaaGreat
open Go.RowKit Rgn
set_option maxHeartbeats 4000000
set_option maxRecDepth 100000
variable {S:Nat→Prop} {W:World}
theorem dsBy {v0:Value} {v1:Value} (c:Ci) (d:Ci) (t0:(RingP c).p S v0 W) (t1:(RingP d).p S v1 W) (p0:ht c.a+ht c.b.re+ht c.b.im+ht c.c+(ht d.a+ht d.b.re+ht d.b.im+ht d.c)≤67108864) :
  Calls Tryz.prog 214 #[v0,v1] W (Ret (RatP (c.dot d)) S W):=by
 obtain ⟨b1,x2,x3,b4,rfl,L1,L4,F1,F_x2,F_x3,F4⟩:=RingP.elim t0
 replace L1:Amb S W b1:=.inl L1
 replace F_x2:(RatN c.b.re).p (Amb S W) x2 W:=(RatN c.b.re).mono (fun _ _ h=>.inl h) F_x2
 replace F_x3:(RatN c.b.im).p (Amb S W) x3 W:=(RatN c.b.im).mono (fun _ _ h=>.inl h) F_x3
 replace L4:Amb S W b4:=.inl L4
 obtain ⟨b5,x6,x7,b8,rfl,L5,L8,F5,F_x6,F_x7,F8⟩:=RingP.elim t1
 replace L5:Amb S W b5:=.inl L5
 replace F_x6:(RatN d.b.re).p (Amb S W) x6 W:=(RatN d.b.re).mono (fun _ _ h=>.inl h) F_x6
 replace F_x7:(RatN d.b.im).p (Amb S W) x7 W:=(RatN d.b.im).mono (fun _ _ h=>.inl h) F_x7
 replace L8:Amb S W b8:=.inl L8
 have z2:ht (Rat.divInt (1:Int) (2:Int))=3:=by decide
 have h1:=ht_mul c.a d.c
 have h2:=ht_mul d.a c.c
 have h3:=hc_conj d.b
 have h4:=hc_mul c.b d.b.conj
 have z0:=ht_zero
 have h5:=ht_add 0 (c.a*d.c)
 have h6:=ht_add (0+c.a*d.c) (d.a*c.c)
 have h7:=ht_mul (0+c.a*d.c+d.a*c.c) (Rat.divInt (1:Int) (2:Int))
 have bel:=b0 W
 go_enter Tryz.func214,Tryz.ntmps214
 refine gs 3 (Amb S W) fun _ K9=>?_
 refine .bx rfl (fun H=>H.v 0 (.agg #[pt b1,x2,x3,pt b4])) ?_
 refine .bx rfl (fun H=>H.v 1 (.agg #[pt b5,x6,x7,pt b8])) ?_
 refine .mc rfl ?_
 refine .dk (fun u=>.agg #[pt b1,x2,x3,pt b4]::.agg #[pt b5,x6,x7,pt b8]::sq u 0 3 (us 31)) K9 bel fun u1 w1 D bel=>?_
 obtain ⟨b10,E1_0,A10,B10⟩:=D.nw 0
 obtain ⟨b11,E1_1,A11,B11⟩:=D.nw 1
 have E1_2:=D.q 2
 replace F1:=D.o L1 F1
 replace F4:=D.o L4 F4
 replace F5:=D.o L5 F5
 replace F8:=D.o L8 F8
 replace F_x2:=D.gr (RatN c.b.re) F_x2
 replace F_x3:=D.gr (RatN c.b.im) F_x3
 replace F_x6:=D.gr (RatN d.b.re) F_x6
 replace F_x7:=D.gr (RatN d.b.im) F_x7
 clear D
 refine gd 13 (Amb S W) fun _ K12=>?_
 refine .fz rfl 2 0 E1_0 ?_
 refine .lc rfl 0 B10 ?_ (V:=pt b1)
 refine .fz rfl 3 3 E1_1 ?_
 refine .lc rfl 2 B11 ?_ (V:=pt b8)
 refine .cR rfl [] Tryz.func237 (fun H=>⟨_,ar2 (H.g 9 1) (H.g 11 3),eMul _ _ (RatP.n (H.was _ [] (VP.at F1 L1))) (RatP.n (H.was _ [] (VP.at F8 L8))) (by omega)⟩) ?_
 refine .fz rfl 3 0 E1_1 ?_
 refine .lc rfl 5 B11 ?_ (V:=pt b5)
 refine .fz rfl 2 3 E1_0 ?_
 refine .lc rfl 7 B10 ?_ (V:=pt b4)
 refine .cR rfl [] Tryz.func237 (fun H=>⟨_,ar2 (H.g 14 6) (H.g 16 8),eMul _ _ (RatP.n (H.was _ [] (VP.at F5 L5))) (RatP.n (H.was _ [] (VP.at F4 L4))) (by omega)⟩) ?_
 refine .br2 rfl [4,9] (fun H=>⟨_,_,(H.r 12 4),(H.r 17 9),(SV.sub [4,9] (H.a 4 rfl) rfl),(SV.sub [4,9] (H.a 9 rfl) rfl)⟩) ?_
 refine .cR rfl [4,9,10] Tryz.func227 (fun H=>⟨_,ar1 (H.r 18 10),ofF H.here.base.grow.size (eSum2 _ _ (SV.sub [4,9,10] (H.a 10 rfl) rfl) (by omega))⟩) ?_
 refine .mn rfl 11 [4,9,10,11] ?_
 refine .dk (fun u=>.agg #[pt b1,x2,x3,pt b4]::.agg #[pt b5,x6,x7,pt b8]::sq u1 0 3 (u 12::U::U::sq u 0 12 (us 16))) K12 bel fun u2 w2 D bel=>?_
 obtain ⟨b13,E2_12,A13,F13⟩:=RatNw.elim (D.rr 12)
 have N10_13:=Nat.ne_of_lt (Nat.lt_of_lt_of_le (lt_of B10) A13)
 have N11_13:=Nat.ne_of_lt (Nat.lt_of_lt_of_le (lt_of B11) A13)
 have N1_13:=Nat.ne_of_lt (Nat.lt_of_lt_of_le (RatP.lt F1) A13)
 have N4_13:=Nat.ne_of_lt (Nat.lt_of_lt_of_le (RatP.lt F4) A13)
 have N5_13:=Nat.ne_of_lt (Nat.lt_of_lt_of_le (RatP.lt F5) A13)
 have N8_13:=Nat.ne_of_lt (Nat.lt_of_lt_of_le (RatP.lt F8) A13)
 replace A13:=le2 D.le A13
 have L13:Amb S W b13:=.inr A13
 replace B10:=D.k B10
 replace B11:=D.k B11
 replace F1:=D.o L1 F1
 replace F4:=D.o L4 F4
 replace F5:=D.o L5 F5
 replace F8:=D.o L8 F8
 replace F_x2:=D.gr (RatN c.b.re) F_x2
 replace F_x3:=D.gr (RatN c.b.im) F_x3
 replace F_x6:=D.gr (RatN d.b.re) F_x6
 replace F_x7:=D.gr (RatN d.b.im) F_x7
 clear D
 refine gd 12 (Amb S W) fun _ K14=>?_
 refine .fz rfl 2 1 E1_0 ?_
 refine .lp rfl 0 (#[x2,x3]) B10 ?_
 refine .fz rfl 3 1 E1_1 ?_
 refine .lp rfl 2 (#[x6,x7]) B11 ?_
 refine .cR rfl [] Tryz.func136 (fun H=>⟨_,ar1 (H.g 24 3),eConj _ (NumP.mk (H.was _ [] F_x6) (H.was _ [] F_x7)) (by omega)⟩) ?_
 refine .cR rfl [4] Tryz.func137 (fun H=>⟨_,ar2 (H.g 22 1) (H.r 25 4),eNMul _ _ (NumP.mk (H.was _ [4] F_x2) (H.was _ [4] F_x3)) (SV.sub [4] (H.a 4 rfl) rfl) (by omega)⟩) ?_
 refine .cR rfl [4,5] Tryz.func139 (fun H=>⟨_,ar1 (H.r 26 5),eParts _ (SV.sub [4,5] (H.a 5 rfl) rfl)⟩) ?_
 refine .mn rfl 6 [4,5,6] ?_
 refine Go2.fn (i:=8) rfl (G0 rfl) (.val 8 [4,5,6,7] (RatP ((c.b.mul d.b.conj).re))) (fun u μ ρ H=>by have e20:=H.r 20 7;have h0:=(H.a 7 rfl);obtain ⟨x0,x1,h1,h2⟩:=h0;rw [h1] at e20;exact ⟨x0,by clear H;go_simp,SP.tupKeep (by decide) (by decide) h2.1⟩) ?_
 refine Go2.fn (i:=9) rfl (G0 rfl) (.val 9 [4,5,6,7] (RatP ((c.b.mul d.b.conj).im))) (fun u μ ρ H=>by have e20:=H.r 20 7;have h0:=(H.a 7 rfl);obtain ⟨x0,x1,h1,h2⟩:=h0;rw [h1] at e20;exact ⟨x1,by clear H;go_simp,SP.tupKeep (by decide) (by decide) h2.2⟩) ?_
 refine .mn rfl 8 [4,5,6,7,8] ?_
 refine .mn rfl 9 [4,5,6,7,9] ?_
 refine .dk (fun u=>.agg #[pt b1,x2,x3,pt b4]::.agg #[pt b5,x6,x7,pt b8]::sq u1 0 3 (u2 12::u 10::u 11::sq u2 0 12 (u 7::sq u 0 7 (u 8::u 9::us 6)))) K14 bel fun u3 w3 D bel=>?_
 obtain ⟨b15,E3_10,L15,F15⟩:=RatP.elim (D.rr 10)
 replace F13:=D.o L13 F13
 clear D
 refine wp_seq_k fun _ K16=>?_
 refine go2_seqT 5 2 rfl (Amb S W) [] [] (Olds.nil _) (by kernel_rfl) ?_
 refine .mz rfl 5 E2_12 ?_
 refine .mz rfl 5 E2_12 ?_
 refine .cR rfl [] Tryz.func132 (fun H=>⟨_,ar2 (H.c (.int .i64 1)) (H.c (.int .i64 2)),qNewRat _ _ (by omega) (by omega) (by omega) (by omega) (by omega)⟩) ?_
 refine .cR rfl [2] Tryz.func237 (fun H=>⟨_,ar2 (H.g 31 1) (H.r 32 2),eMul _ _ (RatP.n (H.was _ [2] (VP.at F13 L13))) (RatP.n (SV.sub [2] (H.a 2 rfl) rfl)) (by omega)⟩) ?_
 refine .mz rfl 6 E3_10 ?_
 refine .dT (fun u=>.agg #[pt b1,x2,x3,pt b4]::.agg #[pt b5,x6,x7,pt b8]::u1 0::u1 1::u 6::u2 12::u3 10::u3 11::sq u2 0 12 (u3 7::sq u3 0 7 (u3 8::u3 9::sq u 0 6 []))) bel.size _ rfl fun u4 w4 D=>?_
 obtain ⟨b17,E4_3,L17,F17⟩:=RatP.elim (D.rr 3)
 have E4_0:=D.q 0
 have E4_4:=D.q 4
 replace F13:=D.o L13 F13
 replace F15:=D.o L15 F15
 replace bel:=D.d.base.bel0 bel bel.size
 clear D
 refine wpT_callO (args:=#[pt b13,pt b17,pt b15]) rfl (ex_call rfl rfl Tryz.func192 (by kernel_rfl) (by kernel_rfl) (by simp only [List.map_toArray,List.map_cons,List.map_nil];show #[(u4 0).v,(u4 3).v,(u4 4).v]=#[pt b13,pt b17,pt b15];rw [E4_0,E4_3,E4_4])) (qSub (z:=b13) (x:=((0:Rat)+(c.a*d.c)+(d.a*c.c))*(Rat.divInt (1:Int) (2:Int))) (y:=(c.b.mul d.b.conj).re) (RatP.blk F13) (VP.any _ F17) (VP.any _ F15) (by omega)) fun w18 fw18 ow18=>?_
 have sw18:Soft w4 b13∨Local w4 b13:=.inl (RatP.soft F13)
 have F13:=fw18
 have L13:Amb S W b13:=.inr A13
 replace bel:=bel.trans (only_below' ow18 A13 bel.size)
 refine wpT_val rfl (ex_assign rfl) ?_
 refine wpList_nil ?_
 show _
 refine K16 _ _ ?_
 refine wp_ret ?_
 refine ret_ok rfl (by exact results_tmp' rfl rfl) ⟨_,rfl,?_,bel⟩
 exact rat_eq (dot_eq c d) (VP.at F13 L13)
theorem dsPlus {v0:Value} {v1:Value} (c:Ci) (d:Ci) (t0:(RingP c).p S v0 W) (t1:(RingP d).p S v1 W) (p0:ht c.a+ht c.b.re+ht c.b.im+ht c.c+(ht d.a+ht d.b.re+ht d.b.im+ht d.c)≤67108864) :
  Calls Tryz.prog 114 #[v0,v1] W (Ret (RingP (c.plus d)) S W):=by
 obtain ⟨b1,x2,x3,b4,rfl,L1,L4,F1,F_x2,F_x3,F4⟩:=RingP.elim t0
 replace L1:Amb S W b1:=.inl L1
 replace F_x2:(RatN c.b.re).p (Amb S W) x2 W:=(RatN c.b.re).mono (fun _ _ h=>.inl h) F_x2
 replace F_x3:(RatN c.b.im).p (Amb S W) x3 W:=(RatN c.b.im).mono (fun _ _ h=>.inl h) F_x3
 replace L4:Amb S W b4:=.inl L4
 obtain ⟨b5,x6,x7,b8,rfl,L5,L8,F5,F_x6,F_x7,F8⟩:=RingP.elim t1
 replace L5:Amb S W b5:=.inl L5
 replace F_x6:(RatN d.b.re).p (Amb S W) x6 W:=(RatN d.b.re).mono (fun _ _ h=>.inl h) F_x6
 replace F_x7:(RatN d.b.im).p (Amb S W) x7 W:=(RatN d.b.im).mono (fun _ _ h=>.inl h) F_x7
 replace L8:Amb S W b8:=.inl L8
 have bel:=b0 W
 go_enter Tryz.func114,Tryz.ntmps114
 refine gs 3 (Amb S W) fun _ K9=>?_
 refine .bx rfl (fun H=>H.v 0 (.agg #[pt b1,x2,x3,pt b4])) ?_
 refine .bx rfl (fun H=>H.v 1 (.agg #[pt b5,x6,x7,pt b8])) ?_
 refine .al rfl (#[.pointer none,.pointer none,.pointer none,.pointer none]) ?_
 refine .dk (fun u=>.agg #[pt b1,x2,x3,pt b4]::.agg #[pt b5,x6,x7,pt b8]::sq u 0 3 (us 18)) K9 bel fun u1 w1 D bel=>?_
 obtain ⟨b10,E1_0,A10,B10⟩:=D.nw 0
 obtain ⟨b11,E1_1,A11,B11⟩:=D.nw 1
 obtain ⟨b12,E1_2,A12,B12⟩:=D.nw 2
 have N1_12:=D.n1 2 (RatP.lt F1) E1_2
 have N4_12:=D.n1 2 (RatP.lt F4) E1_2
 have N5_12:=D.n1 2 (RatP.lt F5) E1_2
 have N8_12:=D.n1 2 (RatP.lt F8) E1_2
 have N10_12:=D.n2 0 2 E1_0 E1_2
 have N11_12:=D.n2 1 2 E1_1 E1_2
 replace F1:=D.o L1 F1
 replace F4:=D.o L4 F4
 replace F5:=D.o L5 F5
 replace F8:=D.o L8 F8
 replace F_x2:=D.gr (RatN c.b.re) F_x2
 replace F_x3:=D.gr (RatN c.b.im) F_x3
 replace F_x6:=D.gr (RatN d.b.re) F_x6
 replace F_x7:=D.gr (RatN d.b.im) F_x7
 clear D
 refine gd1 19 (Amb S W) 18 B12 fun _ K13=>?_
 refine .fz rfl 2 0 E1_0 ?_
 refine .e rfl (V:=pt b1) (fun H=>x_ldc (H.g 5 0) (H.b1 B10 (Ne.symm N10_12))) ?_
 refine .fz rfl 3 0 E1_1 ?_
 refine .e rfl (V:=pt b5) (fun H=>x_ldc (H.g 7 2) (H.b1 B11 (Ne.symm N11_12))) ?_
 refine .br2 rfl [] (fun H=>⟨_,_,(H.g 6 1),(H.g 8 3),(H.was _ [] (VP.at F1 L1)),(H.was _ [] (VP.at F5 L5))⟩) ?_
 refine .cR rfl [4] Tryz.func227 (fun H=>⟨_,ar1 (H.r 9 4),ofZ (eSum2 _ _ (SV.sub [4] (H.a 4 rfl) rfl) (by omega))⟩) ?_
 refine .fz rfl 2 1 E1_0 ?_
 refine .e rfl (V:=.agg #[x2,x3]) (fun H=>x_ldp (H.g 11 6) (H.b1 B10 (Ne.symm N10_12))) ?_
 refine .fz rfl 3 1 E1_1 ?_
 refine .e rfl (V:=.agg #[x6,x7]) (fun H=>x_ldp (H.g 13 8) (H.b1 B11 (Ne.symm N11_12))) ?_
 refine .cR rfl [] Tryz.func177 (fun H=>⟨_,ar2 (H.g 12 7) (H.g 14 9),eAdd _ _ (NumP.mk (H.was _ [] F_x2) (H.was _ [] F_x3)) (NumP.mk (H.was _ [] F_x6) (H.was _ [] F_x7)) (by omega)⟩) ?_
 refine .fz rfl 2 3 E1_0 ?_
 refine .e rfl (V:=pt b4) (fun H=>x_ldc (H.g 16 11) (H.b1 B10 (Ne.symm N10_12))) ?_
 refine .fz rfl 3 3 E1_1 ?_
 refine .e rfl (V:=pt b8) (fun H=>x_ldc (H.g 18 13) (H.b1 B11 (Ne.symm N11_12))) ?_
 refine .br2 rfl [] (fun H=>⟨_,_,(H.g 17 12),(H.g 19 14),(H.was _ [] (VP.at F4 L4)),(H.was _ [] (VP.at F8 L8))⟩) ?_
 refine .cR rfl [15] Tryz.func227 (fun H=>⟨_,ar1 (H.r 20 15),ofZ (eSum2 _ _ (SV.sub [15] (H.a 15 rfl) rfl) (by omega))⟩) ?_
 refine Go2.fn (i:=17) rfl (G0 rfl) (SP.fnL 17 [5,10,16] (fun u=>.agg #[(u 5).v,(u 10).v.cells.getD 0 undef,(u 10).v.cells.getD 1 undef,(u 16).v]) (by intro u u' h;simp [h 5 (by simp),h 10 (by simp),h 16 (by simp)])) (fun u μ ρ H=>⟨_,by have e10:=H.r 10 5;have e15:=H.r 15 10;have e21:=H.r 21 16;obtain ⟨x1_10,x2_10,h1_10,h2_10,h3_10⟩:=(H.a 10 rfl);obtain ⟨x5,h5⟩:=RatP.isPtr (H.a 5 rfl);obtain ⟨x16,h16⟩:=RatP.isPtr (H.a 16 rfl);clear H;go_simp,SP.fnL_upd (by decide)⟩) ?_
 refine Go2.storeOld (i:=18) 0 b12 rfl rfl rfl ⟨_,_,_,B12,rfl⟩ (SP.old 0 b12 [5,10,16] (fun u=>#[(u 5).v,((u 10).v.cells.getD 0 undef),((u 10).v.cells.getD 1 undef),(u 16).v]) 180 (by intro u u' h;simp [h 5 (by simp),h 10 (by simp),h 16 (by simp)]) (lt_of B12) (by intro y k hy;match y,hy with|0,hy=>rfl)) (fun u μ ρ H=>?_) ?_
 · have e4:=H.z 4 E1_2;have e22:=H.e 22 17 (by kernel_rfl) (H.a 17 rfl);have o5:=VP1.rat (H.a 5 rfl);have op10_0:((u 10).v.cells[0]?.getD undef).oneCell'=true:=(by obtain ⟨x1,x2,h1,h2,h3⟩:=(H.a 10 rfl);rw [h1];exact VP1.ratn h2);have op10_1:((u 10).v.cells[1]?.getD undef).oneCell'=true:=(by obtain ⟨x1,x2,h1,h2,h3⟩:=(H.a 10 rfl);rw [h1];exact VP1.ratn h3);have o16:=VP1.rat (H.a 16 rfl);have hb:=H.blkOld B12 0 18 rfl (.inl rfl)
   refine ⟨μ.setRow b12 #[(u 5).v,((u 10).v.cells.getD 0 undef),((u 10).v.cells.getD 1 undef),(u 16).v],ex_store_row 180 _ _ rfl e4 e22 hb (by kernel_rfl) rfl (by simp [o5,op10_0,ptr1,op10_1,o16]<;>rfl),fun g=>?_,setRow_only _ _ _⟩
   show (World.setRow _ _ _).heap[b12]? = _
   rw [setRow_at hb];try simp [upd]
 refine .d1 (fun u=>.agg #[pt b1,x2,x3,pt b4]::.agg #[pt b5,x6,x7,pt b8]::sq u1 0 3 (sq u 0 18 [])) K13 bel A12 fun u2 w2 D bel=>?_
 obtain ⟨b14,E2_5,L14,F14⟩:=RatP.elim (D.rr 5)
 obtain ⟨x15,x16,E2_10,F_x15,F_x16⟩:=(D.rr 10)
 obtain ⟨b17,E2_16,L17,F17⟩:=RatP.elim (D.rr 16)
 replace B12:w2.heap[b12]? = _:=(D.a 18 rfl)
 simp only [Value.cells,E2_5,E2_10,E2_16] at B12
 clear D
 refine wp_ret ?_
 refine ret_ok rfl (by exact results_row rfl (by exact E1_2) B12 Tryz.underlying180 rfl (by kernel_rfl)) ⟨_,rfl,?_,bel⟩
 exact ring_eq (plus_eq c d) (RingP.mk (VP.at F14 L14) F_x15 F_x16 (VP.at F17 L17))
theorem dsTimes {v0:Value} {v1:Value} (c:Ci) (x:Rat) (t0:(RingP c).p S v0 W) (t1:(RatP x).p S v1 W) (p0:ht c.a+ht c.b.re+ht c.b.im+ht c.c+ht x≤67108864) :
  Calls Tryz.prog 204 #[v0,v1] W (Ret (RingP (c.times x)) S W):=by
 obtain ⟨b1,x2,x3,b4,rfl,L1,L4,F1,F_x2,F_x3,F4⟩:=RingP.elim t0
 replace L1:Amb S W b1:=.inl L1
 replace F_x2:(RatN c.b.re).p (Amb S W) x2 W:=(RatN c.b.re).mono (fun _ _ h=>.inl h) F_x2
 replace F_x3:(RatN c.b.im).p (Amb S W) x3 W:=(RatN c.b.im).mono (fun _ _ h=>.inl h) F_x3
 replace L4:Amb S W b4:=.inl L4
 obtain ⟨b5,rfl,L5,F5⟩:=RatP.elim t1
 replace L5:Amb S W b5:=.inl L5
 have bel:=b0 W
 go_enter Tryz.func204,Tryz.ntmps204
 refine gs 2 (Amb S W) fun _ K6=>?_
 refine .bx rfl (fun H=>H.v 0 (.agg #[pt b1,x2,x3,pt b4])) ?_
 refine .al rfl (#[.pointer none,.pointer none,.pointer none,.pointer none]) ?_
 refine .dk (fun u=>.agg #[pt b1,x2,x3,pt b4]::pt b5::u 0::U::u 1::us 13) K6 bel fun u1 w1 D bel=>?_
 obtain ⟨b7,E1_0,A7,B7⟩:=D.nw 0
 obtain ⟨b8,E1_1,A8,B8⟩:=D.nw 1
 have N1_8:=D.n1 1 (RatP.lt F1) E1_1
 have N4_8:=D.n1 1 (RatP.lt F4) E1_1
 have N5_8:=D.n1 1 (RatP.lt F5) E1_1
 have N7_8:=D.n2 0 1 E1_0 E1_1
 replace F1:=D.o L1 F1
 replace F4:=D.o L4 F4
 replace F5:=D.o L5 F5
 replace F_x2:=D.gr (RatN c.b.re) F_x2
 replace F_x3:=D.gr (RatN c.b.im) F_x3
 clear D
 refine gd1 14 (Amb S W) 13 B8 fun _ K9=>?_
 refine .fz rfl 2 0 E1_0 ?_
 refine .e rfl (V:=pt b1) (fun H=>x_ldc (H.g 5 0) (H.b1 B7 (Ne.symm N7_8))) ?_
 refine .mz rfl 1 (V:=pt b5) rfl ?_
 refine .cR rfl [] Tryz.func237 (fun H=>⟨_,ar2 (H.g 6 1) (H.g 7 2),eMul _ _ (RatP.n (H.was _ [] (VP.at F1 L1))) (RatP.n (H.was _ [] (VP.at F5 L5))) (by omega)⟩) ?_
 refine .fz rfl 2 1 E1_0 ?_
 refine .e rfl (V:=.agg #[x2,x3]) (fun H=>x_ldp (H.g 9 4) (H.b1 B7 (Ne.symm N7_8))) ?_
 refine .mz rfl 1 (V:=pt b5) rfl ?_
 refine .cR rfl [] Tryz.func200 (fun H=>⟨_,ar2 (H.g 10 5) (H.g 11 6),eScale _ _ (NumP.mk (H.was _ [] F_x2) (H.was _ [] F_x3)) (RatP.n (H.was _ [] (VP.at F5 L5))) (by omega)⟩) ?_
 refine .fz rfl 2 3 E1_0 ?_
 refine .e rfl (V:=pt b4) (fun H=>x_ldc (H.g 13 8) (H.b1 B7 (Ne.symm N7_8))) ?_
 refine .mz rfl 1 (V:=pt b5) rfl ?_
 refine .cR rfl [] Tryz.func237 (fun H=>⟨_,ar2 (H.g 14 9) (H.g 15 10),eMul _ _ (RatP.n (H.was _ [] (VP.at F4 L4))) (RatP.n (H.was _ [] (VP.at F5 L5))) (by omega)⟩) ?_
 refine Go2.fn (i:=12) rfl (G0 rfl) (SP.fnL 12 [3,7,11] (fun u=>.agg #[(u 3).v,(u 7).v.cells.getD 0 undef,(u 7).v.cells.getD 1 undef,(u 11).v]) (by intro u u' h;simp [h 3 (by simp),h 7 (by simp),h 11 (by simp)])) (fun u μ ρ H=>⟨_,by have e8:=H.r 8 3;have e12:=H.r 12 7;have e16:=H.r 16 11;obtain ⟨x1_7,x2_7,h1_7,h2_7,h3_7⟩:=(H.a 7 rfl);obtain ⟨x3,h3⟩:=RatP.isPtr (H.a 3 rfl);obtain ⟨x11,h11⟩:=RatP.isPtr (H.a 11 rfl);clear H;go_simp,SP.fnL_upd (by decide)⟩) ?_
 refine Go2.storeOld (i:=13) 0 b8 rfl rfl rfl ⟨_,_,_,B8,rfl⟩ (SP.old 0 b8 [3,7,11] (fun u=>#[(u 3).v,((u 7).v.cells.getD 0 undef),((u 7).v.cells.getD 1 undef),(u 11).v]) 180 (by intro u u' h;simp [h 3 (by simp),h 7 (by simp),h 11 (by simp)]) (lt_of B8) (by intro y k hy;match y,hy with|0,hy=>rfl)) (fun u μ ρ H=>?_) ?_
 · have e4:=H.z 4 E1_1;have e17:=H.e 17 12 (by kernel_rfl) (H.a 12 rfl);have o3:=VP1.rat (H.a 3 rfl);have op7_0:((u 7).v.cells[0]?.getD undef).oneCell'=true:=(by obtain ⟨x1,x2,h1,h2,h3⟩:=(H.a 7 rfl);rw [h1];exact VP1.ratn h2);have op7_1:((u 7).v.cells[1]?.getD undef).oneCell'=true:=(by obtain ⟨x1,x2,h1,h2,h3⟩:=(H.a 7 rfl);rw [h1];exact VP1.ratn h3);have o11:=VP1.rat (H.a 11 rfl);have hb:=H.blkOld B8 0 13 rfl (.inl rfl)
   refine ⟨μ.setRow b8 #[(u 3).v,((u 7).v.cells.getD 0 undef),((u 7).v.cells.getD 1 undef),(u 11).v],ex_store_row 180 _ _ rfl e4 e17 hb (by kernel_rfl) rfl (by simp [o3,op7_0,ptr1,op7_1,o11]<;>rfl),fun g=>?_,setRow_only _ _ _⟩
   show (World.setRow _ _ _).heap[b8]? = _
   rw [setRow_at hb];try simp [upd]
 refine .d1 (fun u=>.agg #[pt b1,x2,x3,pt b4]::pt b5::u1 0::U::u1 1::sq u 0 13 []) K9 bel A8 fun u2 w2 D bel=>?_
 obtain ⟨b10,E2_3,L10,F10⟩:=RatP.elim (D.rr 3)
 obtain ⟨x11,x12,E2_7,F_x11,F_x12⟩:=(D.rr 7)
 obtain ⟨b13,E2_11,L13,F13⟩:=RatP.elim (D.rr 11)
 replace B8:w2.heap[b8]? = _:=(D.a 13 rfl)
 simp only [Value.cells,E2_3,E2_7,E2_11] at B8
 clear D
 refine wp_ret ?_
 refine ret_ok rfl (by exact results_row rfl (by exact E1_1) B8 Tryz.underlying180 rfl (by kernel_rfl)) ⟨_,rfl,?_,bel⟩
 exact (RingP.mk (VP.at F10 L10) F_x11 F_x12 (VP.at F13 L13))
theorem dsOut {v0:Value} (c:Ci) (t0:(RingP c).p S v0 W) (p0:ht c.a+ht c.b.re+ht c.b.im+ht c.c≤67108000) :
  Calls Tryz.prog 116 #[v0] W (Ret (RingP c.out) S W):=by
 obtain ⟨b1,x2,x3,b4,rfl,L1,L4,F1,F_x2,F_x3,F4⟩:=RingP.elim t0
 replace L1:Amb S W b1:=.inl L1
 replace F_x2:(RatN c.b.re).p (Amb S W) x2 W:=(RatN c.b.re).mono (fun _ _ h=>.inl h) F_x2
 replace F_x3:(RatN c.b.im).p (Amb S W) x3 W:=(RatN c.b.im).mono (fun _ _ h=>.inl h) F_x3
 replace L4:Amb S W b4:=.inl L4
 have z2:ht (Rat.divInt (-1:Int) (1:Int))=2:=by decide
 have bel:=b0 W
 go_enter Tryz.func116,Tryz.ntmps116
 refine gs 2 (Amb S W) fun _ K5=>?_
 refine .bx rfl (fun H=>H.v 0 (.agg #[pt b1,x2,x3,pt b4])) ?_
 refine .al rfl (#[.pointer none,.pointer none,.pointer none,.pointer none]) ?_
 refine .dk (fun u=>.agg #[pt b1,x2,x3,pt b4]::u 0::u 1::us 3) K5 bel fun u1 w1 D bel=>?_
 obtain ⟨b6,E1_0,A6,B6⟩:=D.nw 0
 obtain ⟨b7,E1_1,A7,B7⟩:=D.nw 1
 have N1_7:=D.n1 1 (RatP.lt F1) E1_1
 have N4_7:=D.n1 1 (RatP.lt F4) E1_1
 have N6_7:=D.n2 0 1 E1_0 E1_1
 replace F1:=D.o L1 F1
 replace F4:=D.o L4 F4
 replace F_x2:=D.gr (RatN c.b.re) F_x2
 replace F_x3:=D.gr (RatN c.b.im) F_x3
 clear D
 refine gd1 4 (Amb S W) 3 B7 fun _ K8=>?_
 refine .e rfl (fun H=>x_ldr (H.z 1 E1_0) (H.b1 B6 (Ne.symm N6_7))) ?_
 refine .cR rfl [] Tryz.func132 (fun H=>⟨_,ar2 (H.c (.int .i64 (-1))) (H.c (.int .i64 1)),qNewRat _ _ (by omega) (by omega) (by omega) (by omega) (by omega)⟩) ?_
 refine .cR rfl [1] Tryz.func204 (fun H=>⟨_,ar2 (H.g 3 0) (H.r 4 1),dsTimes _ _ (RingP.mk (H.was _ [1] (VP.at F1 L1)) (H.was _ [1] F_x2) (H.was _ [1] F_x3) (H.was _ [1] (VP.at F4 L4))) (SV.sub [1] (H.a 1 rfl) rfl) (by omega)⟩) ?_
 refine Go2.storeOld (i:=3) 0 b7 rfl rfl rfl ⟨_,_,_,B7,rfl⟩ (SP.old 0 b7 [2] (fun u=>#[((u 2).v.cells.getD 0 undef),((u 2).v.cells.getD 1 undef),((u 2).v.cells.getD 2 undef),((u 2).v.cells.getD 3 undef)]) 180 (by intro u u' h;simp [h 2 (by simp)]) (lt_of B7) (by intro y k hy;match y,hy with|0,hy=>rfl)) (fun u μ ρ H=>?_) ?_
 · have e2:=H.z 2 E1_1;have e5:=H.r 5 2;have hb:=H.blkOld B7 0 3 rfl (.inl rfl)
   obtain ⟨x1,x2,x3,x4,h1,h2,h3,h4,h5⟩:=(H.a 2 rfl)
   have o1:=VP1.rat h2
   have o2:=VP1.ratn h3
   have o3:=VP1.ratn h4
   have o4:=VP1.rat h5
   rw [h1] at e5
   refine ⟨μ.setRow b7 #[x1,x2,x3,x4],ex_store_row 180 _ _ rfl e2 e5 hb (by kernel_rfl) rfl (by simp [o1,o2,o3,o4]<;>rfl),fun g=>?_,setRow_only _ _ _⟩
   show (World.setRow _ _ _).heap[b7]? = _
   rw [setRow_at hb];try simp [upd,h1,Value.cells]
 refine .d1 (fun u=>.agg #[pt b1,x2,x3,pt b4]::u1 0::u1 1::sq u 0 3 []) K8 bel A7 fun u2 w2 D bel=>?_
 obtain ⟨b9,x10,x11,b12,E2_2,L9,L12,F9,F_x10,F_x11,F12⟩:=RingP.elim (D.rr 2)
 replace B7:w2.heap[b7]? = _:=(D.a 3 rfl)
 simp only [Value.cells,E2_2] at B7
 clear D
 refine wp_ret ?_
 refine ret_ok rfl (by exact results_row rfl (by exact E1_1) B7 Tryz.underlying180 rfl (by kernel_rfl)) ⟨_,rfl,?_,bel⟩
 exact ring_eq (out_eq c) (RingP.mk (VP.at F9 L9) F_x10 F_x11 (VP.at F12 L12))
theorem dsSame {v0:Value} {v1:Value} (c:Ci) (d:Ci) (t0:(RingP c).p S v0 W) (t1:(RingP d).p S v1 W) (p0:ht c.a+ht c.b.re+ht c.b.im+ht c.c+(ht d.a+ht d.b.re+ht d.b.im+ht d.c)≤1073741824) :
  Calls Tryz.prog 272 #[v0,v1] W (RetV (.bool (decide (c=d))) W):=by
 obtain ⟨b1,x2,x3,b4,rfl,L1,L4,F1,F_x2,F_x3,F4⟩:=RingP.elim t0
 replace L1:Amb S W b1:=.inl L1
 replace F_x2:(RatN c.b.re).p (Amb S W) x2 W:=(RatN c.b.re).mono (fun _ _ h=>.inl h) F_x2
 replace F_x3:(RatN c.b.im).p (Amb S W) x3 W:=(RatN c.b.im).mono (fun _ _ h=>.inl h) F_x3
 replace L4:Amb S W b4:=.inl L4
 obtain ⟨b5,x6,x7,b8,rfl,L5,L8,F5,F_x6,F_x7,F8⟩:=RingP.elim t1
 replace L5:Amb S W b5:=.inl L5
 replace F_x6:(RatN d.b.re).p (Amb S W) x6 W:=(RatN d.b.re).mono (fun _ _ h=>.inl h) F_x6
 replace F_x7:(RatN d.b.im).p (Amb S W) x7 W:=(RatN d.b.im).mono (fun _ _ h=>.inl h) F_x7
 replace L8:Amb S W b8:=.inl L8
 have bel:=b0 W
 go_enter Tryz.func272,Tryz.ntmps272
 refine gs 3 (Amb S W) fun _ K9=>?_
 refine .bx rfl (fun H=>H.v 0 (.agg #[pt b1,x2,x3,pt b4])) ?_
 refine .bx rfl (fun H=>H.v 1 (.agg #[pt b5,x6,x7,pt b8])) ?_
 refine .mc rfl ?_
 refine .dk (fun u=>.agg #[pt b1,x2,x3,pt b4]::.agg #[pt b5,x6,x7,pt b8]::sq u 0 3 (us 21)) K9 bel fun u1 w1 D bel=>?_
 obtain ⟨b10,E1_0,A10,B10⟩:=D.nw 0
 obtain ⟨b11,E1_1,A11,B11⟩:=D.nw 1
 have E1_2:=D.q 2
 replace F1:=D.o L1 F1
 replace F4:=D.o L4 F4
 replace F5:=D.o L5 F5
 replace F8:=D.o L8 F8
 replace F_x2:=D.gr (RatN c.b.re) F_x2
 replace F_x3:=D.gr (RatN c.b.im) F_x3
 replace F_x6:=D.gr (RatN d.b.re) F_x6
 replace F_x7:=D.gr (RatN d.b.im) F_x7
 clear D
 rcases Bool.eq_false_or_eq_true ((icmp (c.a.num*(d.a.den:Int)) (d.a.num*(c.a.den:Int))) == 0) with c13|c13
 ·
  rcases Bool.eq_false_or_eq_true ((c.b.sub d.b).zero) with c14|c14
  ·
   refine gs 22 (Amb S W) fun _ K12=>?_
   refine .fz rfl 2 0 E1_0 ?_
   refine .lc rfl 0 B10 ?_ (V:=pt b1)
   refine .fz rfl 3 0 E1_1 ?_
   refine .lc rfl 2 B11 ?_ (V:=pt b5)
   refine .cK rfl Tryz.func175 (fun H=>⟨_,ar2 (H.g 6 1) (H.g 8 3),qCmp _ _ (VP.any _ (H.was _ [] (VP.at F1 L1))) (VP.any _ (H.was _ [] (VP.at F5 L5))) (by omega)⟩) ?_
   refine .e rfl (V:=.bool true) (fun H=>x_cm (H.g 9 4) (H.c _) c13) ?_
   refine .mv rfl 5 ?_
   refine .fz rfl 2 1 E1_0 ?_ (hg:=gq 6 rfl)
   refine .lp rfl 7 (#[x2,x3]) B10 ?_ (hg:=gq 6 rfl)
   refine .fz rfl 3 1 E1_1 ?_ (hg:=gq 6 rfl)
   refine .lp rfl 9 (#[x6,x7]) B11 ?_ (hg:=gq 6 rfl)
   refine .cK rfl (V:=.bool true) Tryz.func179 (fun H=>⟨_,ar2 (H.g 13 8) (H.g 15 10),reV (congrArg Value.bool c14) (eSame _ _ (NumP.mk (VP.any _ (H.was _ [] F_x2)) (VP.any _ (H.was _ [] F_x3))) (NumP.mk (VP.any _ (H.was _ [] F_x6)) (VP.any _ (H.was _ [] F_x7))) (by omega))⟩) ?_ (hg:=gq 6 rfl)
   refine .e rfl (fun H=>x_pkT (H.g 11 6) (H.g 16 11)) ?_
   refine .mv rfl 12 ?_
   refine .fz rfl 2 3 E1_0 ?_ (hg:=gq 13 rfl)
   refine .lc rfl 14 B10 ?_ (V:=pt b4) (hg:=gq 13 rfl)
   refine .fz rfl 3 3 E1_1 ?_ (hg:=gq 13 rfl)
   refine .lc rfl 16 B11 ?_ (V:=pt b8) (hg:=gq 13 rfl)
   refine .cK rfl Tryz.func175 (fun H=>⟨_,ar2 (H.g 20 15) (H.g 22 17),qCmp _ _ (VP.any _ (H.was _ [] (VP.at F4 L4))) (VP.any _ (H.was _ [] (VP.at F8 L8))) (by omega)⟩) ?_ (hg:=gq 13 rfl)
   refine .e rfl (V:=.bool ((icmp (c.c.num*(d.c.den:Int)) (d.c.num*(c.c.den:Int))) == 0)) (fun H=>x_cmp (H.g 23 18) (H.c _)) ?_ (hg:=gq 13 rfl)
   refine .e rfl (fun H=>x_pkT (H.g 18 13) (H.g 24 19)) ?_
   refine .mv rfl 20 ?_
   refine .dk (fun u=>.agg #[pt b1,x2,x3,pt b4]::.agg #[pt b5,x6,x7,pt b8]::u1 0::u1 1::u 21::sq u 0 21 []) K12 bel fun u2 w2 D bel=>?_
   have E2_21:=D.q 21
   clear D
   exact wp_ret (rt rfl E2_21 (by rw [← sm_dec];unfold Ci.sm;rw [c13,c14];rfl) bel)
  ·
   refine gs 22 (Amb S W) fun _ K12=>?_
   refine .fz rfl 2 0 E1_0 ?_
   refine .lc rfl 0 B10 ?_ (V:=pt b1)
   refine .fz rfl 3 0 E1_1 ?_
   refine .lc rfl 2 B11 ?_ (V:=pt b5)
   refine .cK rfl Tryz.func175 (fun H=>⟨_,ar2 (H.g 6 1) (H.g 8 3),qCmp _ _ (VP.any _ (H.was _ [] (VP.at F1 L1))) (VP.any _ (H.was _ [] (VP.at F5 L5))) (by omega)⟩) ?_
   refine .e rfl (V:=.bool true) (fun H=>x_cm (H.g 9 4) (H.c _) c13) ?_
   refine .mv rfl 5 ?_
   refine .fz rfl 2 1 E1_0 ?_ (hg:=gq 6 rfl)
   refine .lp rfl 7 (#[x2,x3]) B10 ?_ (hg:=gq 6 rfl)
   refine .fz rfl 3 1 E1_1 ?_ (hg:=gq 6 rfl)
   refine .lp rfl 9 (#[x6,x7]) B11 ?_ (hg:=gq 6 rfl)
   refine .cK rfl (V:=.bool false) Tryz.func179 (fun H=>⟨_,ar2 (H.g 13 8) (H.g 15 10),reV (congrArg Value.bool c14) (eSame _ _ (NumP.mk (VP.any _ (H.was _ [] F_x2)) (VP.any _ (H.was _ [] F_x3))) (NumP.mk (VP.any _ (H.was _ [] F_x6)) (VP.any _ (H.was _ [] F_x7))) (by omega))⟩) ?_ (hg:=gq 6 rfl)
   refine .e rfl (fun H=>x_pkT (H.g 11 6) (H.g 16 11)) ?_
   refine .mv rfl 12 ?_
   refine .sk rfl 13 ?_
   refine .sk rfl 13 ?_
   refine .sk rfl 13 ?_
   refine .sk rfl 13 ?_
   refine .sk rfl 13 ?_
   refine .sk rfl 13 ?_
   refine .e rfl (fun H=>x_pkF (H.g 18 13) (H.c _)) ?_
   refine .mv rfl 20 ?_
   refine .dk (fun u=>.agg #[pt b1,x2,x3,pt b4]::.agg #[pt b5,x6,x7,pt b8]::u1 0::u1 1::u 21::sq u 0 21 []) K12 bel fun u2 w2 D bel=>?_
   have E2_21:=D.q 21
   clear D
   exact wp_ret (rt rfl E2_21 (by rw [← sm_dec];unfold Ci.sm;rw [c13,c14];rfl) bel)
 ·
  refine gs 22 (Amb S W) fun _ K12=>?_
  refine .fz rfl 2 0 E1_0 ?_
  refine .lc rfl 0 B10 ?_ (V:=pt b1)
  refine .fz rfl 3 0 E1_1 ?_
  refine .lc rfl 2 B11 ?_ (V:=pt b5)
  refine .cK rfl Tryz.func175 (fun H=>⟨_,ar2 (H.g 6 1) (H.g 8 3),qCmp _ _ (VP.any _ (H.was _ [] (VP.at F1 L1))) (VP.any _ (H.was _ [] (VP.at F5 L5))) (by omega)⟩) ?_
  refine .e rfl (V:=.bool false) (fun H=>x_cm (H.g 9 4) (H.c _) c13) ?_
  refine .mv rfl 5 ?_
  refine .sk rfl 6 ?_
  refine .sk rfl 6 ?_
  refine .sk rfl 6 ?_
  refine .sk rfl 6 ?_
  refine .sk rfl 6 ?_
  refine .e rfl (fun H=>x_pkF (H.g 11 6) (H.c _)) ?_
  refine .mv rfl 12 ?_
  refine .sk rfl 13 ?_
  refine .sk rfl 13 ?_
  refine .sk rfl 13 ?_
  refine .sk rfl 13 ?_
  refine .sk rfl 13 ?_
  refine .sk rfl 13 ?_
  refine .e rfl (fun H=>x_pkF (H.g 18 13) (H.c _)) ?_
  refine .mv rfl 20 ?_
  refine .dk (fun u=>.agg #[pt b1,x2,x3,pt b4]::.agg #[pt b5,x6,x7,pt b8]::u1 0::u1 1::u 21::sq u 0 21 []) K12 bel fun u2 w2 D bel=>?_
  have E2_21:=D.q 21
  clear D
  exact wp_ret (rt rfl E2_21 (by rw [← sm_dec];unfold Ci.sm;rw [c13];rfl) bel)
theorem dsRim {v0:Value} (c:Ci) (t0:(RingP c).p S v0 W) (p0:ht c.a+ht c.b.re+ht c.b.im+ht c.c≤67108000) :
  Calls Tryz.prog 211 #[v0] W (Ret (RingP c.rim) S W):=by
 obtain ⟨b1,x2,x3,b4,rfl,L1,L4,F1,F_x2,F_x3,F4⟩:=RingP.elim t0
 replace L1:Amb S W b1:=.inl L1
 replace F_x2:(RatN c.b.re).p (Amb S W) x2 W:=(RatN c.b.re).mono (fun _ _ h=>.inl h) F_x2
 replace F_x3:(RatN c.b.im).p (Amb S W) x3 W:=(RatN c.b.im).mono (fun _ _ h=>.inl h) F_x3
 replace L4:Amb S W b4:=.inl L4
 have h1:=hc_conj c.b
 have bel:=b0 W
 go_enter Tryz.func211,Tryz.ntmps211
 refine gs 2 (Amb S W) fun _ K5=>?_
 refine .bx rfl (fun H=>H.v 0 (.agg #[pt b1,x2,x3,pt b4])) ?_
 refine .al rfl (#[.pointer none,.pointer none,.pointer none,.pointer none]) ?_
 refine .dk (fun u=>.agg #[pt b1,x2,x3,pt b4]::u 0::u 1::us 9) K5 bel fun u1 w1 D bel=>?_
 obtain ⟨b6,E1_0,A6,B6⟩:=D.nw 0
 obtain ⟨b7,E1_1,A7,B7⟩:=D.nw 1
 have N1_7:=D.n1 1 (RatP.lt F1) E1_1
 have N4_7:=D.n1 1 (RatP.lt F4) E1_1
 have N6_7:=D.n2 0 1 E1_0 E1_1
 replace F1:=D.o L1 F1
 replace F4:=D.o L4 F4
 replace F_x2:=D.gr (RatN c.b.re) F_x2
 replace F_x3:=D.gr (RatN c.b.im) F_x3
 clear D
 refine gd1 10 (Amb S W) 9 B7 fun _ K8=>?_
 refine .fz rfl 1 0 E1_0 ?_
 refine .e rfl (V:=pt b1) (fun H=>x_ldc (H.g 3 0) (H.b1 B6 (Ne.symm N6_7))) ?_
 refine .fz rfl 1 1 E1_0 ?_
 refine .e rfl (V:=.agg #[x2,x3]) (fun H=>x_ldp (H.g 5 2) (H.b1 B6 (Ne.symm N6_7))) ?_
 refine .cR rfl [] Tryz.func136 (fun H=>⟨_,ar1 (H.g 6 3),eConj _ (NumP.mk (H.was _ [] F_x2) (H.was _ [] F_x3)) (by omega)⟩) ?_
 refine .cR rfl [4] Tryz.func138 (fun H=>⟨_,ar1 (H.r 7 4),eNeg _ (SV.sub [4] (H.a 4 rfl) rfl) (by omega)⟩) ?_
 refine .fz rfl 1 3 E1_0 ?_
 refine .e rfl (V:=pt b4) (fun H=>x_ldc (H.g 9 6) (H.b1 B6 (Ne.symm N6_7))) ?_
 refine Go2.fn (i:=8) rfl (G0 rfl) (SP.fnL 8 [5] (fun u=>.agg #[pt b1,(u 5).v.cells.getD 0 undef,(u 5).v.cells.getD 1 undef,pt b4]) (by intro u u' h;simp [h 5 (by simp)])) (fun u μ ρ H=>⟨_,by have e4:=H.g 4 1;have e8:=H.r 8 5;have e10:=H.g 10 7;obtain ⟨x1_5,x2_5,h1_5,h2_5,h3_5⟩:=(H.a 5 rfl);clear H;go_simp,SP.fnL_upd (by decide)⟩) ?_
 refine Go2.storeOld (i:=9) 0 b7 rfl rfl rfl ⟨_,_,_,B7,rfl⟩ (SP.old 0 b7 [5] (fun u=>#[pt b1,((u 5).v.cells.getD 0 undef),((u 5).v.cells.getD 1 undef),pt b4]) 203 (by intro u u' h;simp [h 5 (by simp)]) (lt_of B7) (by intro y k hy;match y,hy with|0,hy=>rfl)) (fun u μ ρ H=>?_) ?_
 · have e2:=H.z 2 E1_1;have e11:=H.e 11 8 (by kernel_rfl) (H.a 8 rfl);have op5_0:((u 5).v.cells[0]?.getD undef).oneCell'=true:=(by obtain ⟨x1,x2,h1,h2,h3⟩:=(H.a 5 rfl);rw [h1];exact VP1.ratn h2);have op5_1:((u 5).v.cells[1]?.getD undef).oneCell'=true:=(by obtain ⟨x1,x2,h1,h2,h3⟩:=(H.a 5 rfl);rw [h1];exact VP1.ratn h3);have hb:=H.blkOld B7 0 9 rfl (.inl rfl)
   refine ⟨μ.setRow b7 #[pt b1,((u 5).v.cells.getD 0 undef),((u 5).v.cells.getD 1 undef),pt b4],ex_store_row 203 _ _ rfl e2 e11 hb (by kernel_rfl) rfl (by simp [op5_0,ptr1,op5_1]<;>rfl),fun g=>?_,setRow_only _ _ _⟩
   show (World.setRow _ _ _).heap[b7]? = _
   rw [setRow_at hb];try simp [upd]
 refine .d1 (fun u=>.agg #[pt b1,x2,x3,pt b4]::u1 0::u1 1::sq u 0 9 []) K8 bel A7 fun u2 w2 D bel=>?_
 obtain ⟨x9,x10,E2_5,F_x9,F_x10⟩:=(D.rr 5)
 replace B7:w2.heap[b7]? = _:=(D.a 9 rfl)
 simp only [Value.cells,E2_5] at B7
 replace F1:=D.o L1 F1
 replace F4:=D.o L4 F4
 clear D
 refine wp_ret ?_
 refine ret_ok rfl (by exact results_row rfl (by exact E1_1) B7 Tryz.underlying203 rfl (by kernel_rfl)) ⟨_,rfl,?_,bel⟩
 exact (RingP.mk (VP.at F1 L1) F_x9 F_x10 (VP.at F4 L4))
theorem dsTold {v0:Value} (c:Ci) (t0:(RingP c).p S v0 W) (p0:ht c.a+ht c.b.re+ht c.b.im+ht c.c≤1073741824) :
  Calls Tryz.prog 118 #[v0] W (RetV (.tuple #[.agg #[.bool (((cicut c).a).a).n,.string (((cicut c).a).a).s,.bool (((cicut c).a).b).n,.string (((cicut c).a).b).s,.bool ((((cicut c).b).re).a).n,.string ((((cicut c).b).re).a).s,.bool ((((cicut c).b).re).b).n,.string ((((cicut c).b).re).b).s,.bool ((((cicut c).b).im).a).n,.string ((((cicut c).b).im).a).s,.bool ((((cicut c).b).im).b).n,.string ((((cicut c).b).im).b).s,.bool (((cicut c).c).a).n,.string (((cicut c).c).a).s,.bool (((cicut c).c).b).n,.string (((cicut c).c).b).s],.int .i64 (cierr c)]) W):=by
 obtain ⟨b1,x2,x3,b4,rfl,L1,L4,F1,F_x2,F_x3,F4⟩:=RingP.elim t0
 replace L1:Amb S W b1:=.inl L1
 replace F_x2:(RatN c.b.re).p (Amb S W) x2 W:=(RatN c.b.re).mono (fun _ _ h=>.inl h) F_x2
 replace F_x3:(RatN c.b.im).p (Amb S W) x3 W:=(RatN c.b.im).mono (fun _ _ h=>.inl h) F_x3
 replace L4:Amb S W b4:=.inl L4
 have bel:=b0 W
 go_enter Tryz.func118,Tryz.ntmps118
 refine gs 3 (Amb S W) fun _ K5=>?_
 refine .bx rfl (fun H=>H.v 0 (.agg #[pt b1,x2,x3,pt b4])) ?_
 refine .al rfl zCi ?_
 refine .mc rfl ?_
 refine .dk (fun u=>.agg #[pt b1,x2,x3,pt b4]::sq u 0 3 (us 39)) K5 bel fun u1 w1 D bel=>?_
 obtain ⟨b6,E1_0,A6,B6⟩:=D.nw 0
 obtain ⟨b7,E1_1,A7,B7⟩:=D.nw 1
 have E1_2:=D.q 2
 have N1_7:=D.n1 1 (RatP.lt F1) E1_1
 have N4_7:=D.n1 1 (RatP.lt F4) E1_1
 have N6_7:=D.n2 0 1 E1_0 E1_1
 replace F1:=D.o L1 F1
 replace F4:=D.o L4 F4
 replace F_x2:=D.gr (RatN c.b.re) F_x2
 replace F_x3:=D.gr (RatN c.b.im) F_x3
 clear D
 refine gs 9 (Amb S W) fun _ K8=>?_
 refine .fz rfl 1 0 E1_0 ?_
 refine .lc rfl 0 B6 ?_ (V:=pt b1)
 refine .cK rfl Tryz.func213 (fun H=>⟨_,ar1 (H.g 12 1),eFrac _ (RatP.n (VP.any _ (H.was _ [] (VP.at F1 L1)))) (by omega)⟩) ?_
 refine .mv rfl 2 ?_
 refine .e rfl (V:=rfV (fcut c.a)) (fun H=>x_ex (H.g 10 3)) ?_
 refine .e rfl (V:=.int .i64 (ferr c.a)) (fun H=>x_ex (H.g 10 3)) ?_
 refine .al rfl zF ?_
 refine .so rfl 6 (fun H=>⟨H.r 4 6,H.g 14 4⟩) ?_
 refine .mv rfl 5 ?_
 refine .dk (fun u=>.agg #[pt b1,x2,x3,pt b4]::sq u1 0 3 (u 6::u 8::U::U::U::U::u 3::sq u 0 3 (u 4::u 5::us 27))) K8 bel fun u2 w2 D bel=>?_
 obtain ⟨b9,E2_6,A9,B9⟩:=D.st 7
 have E2_8:=D.q 8
 have N7_9:=D.n1 6 (lt_of B7) E2_6
 replace B6:=D.k B6
 replace B7:=D.k B7
 replace F1:=D.o L1 F1
 replace F4:=D.o L4 F4
 replace F_x2:=D.gr (RatN c.b.re) F_x2
 replace F_x3:=D.gr (RatN c.b.im) F_x3
 clear D
 refine gs 9 (Amb S W) fun _ K10=>?_
 refine .fz rfl 1 1 E1_0 ?_
 refine .lp rfl 0 (#[x2,x3]) B6 ?_
 refine .cK rfl Tryz.func229 (fun H=>⟨_,ar1 (H.g 18 1),eTold _ (NumP.mk (VP.any _ (H.was _ [] F_x2)) (VP.any _ (H.was _ [] F_x3))) (by omega)⟩) ?_
 refine .mv rfl 2 ?_
 refine .e rfl (V:=rgV (gcut c.b)) (fun H=>x_ex (H.g 16 3)) ?_
 refine .e rfl (V:=.int .i64 (gerr c.b)) (fun H=>x_ex (H.g 16 3)) ?_
 refine .al rfl zG ?_
 refine .so rfl 6 (fun H=>⟨H.r 6 6,H.g 20 4⟩) ?_
 refine .mv rfl 5 ?_
 refine .dk (fun u=>.agg #[pt b1,x2,x3,pt b4]::sq u1 0 3 (u2 6::u2 8::u 6::u 8::U::U::u2 3::sq u2 0 3 (u2 4::u2 5::u 3::sq u 0 3 (u 4::u 5::us 21)))) K10 bel fun u3 w3 D bel=>?_
 obtain ⟨b11,E3_6,A11,B11⟩:=D.st 7
 have E3_8:=D.q 8
 have N7_11:=D.n1 6 (lt_of B7) E3_6
 replace B6:=D.k B6
 replace B7:=D.k B7
 replace B9:=D.k B9
 replace F1:=D.o L1 F1
 replace F4:=D.o L4 F4
 replace F_x2:=D.gr (RatN c.b.re) F_x2
 replace F_x3:=D.gr (RatN c.b.im) F_x3
 clear D
 refine gs 9 (Amb S W) fun _ K12=>?_
 refine .fz rfl 1 3 E1_0 ?_
 refine .lc rfl 0 B6 ?_ (V:=pt b4)
 refine .cK rfl Tryz.func213 (fun H=>⟨_,ar1 (H.g 24 1),eFrac _ (RatP.n (VP.any _ (H.was _ [] (VP.at F4 L4)))) (by omega)⟩) ?_
 refine .mv rfl 2 ?_
 refine .e rfl (V:=rfV (fcut c.c)) (fun H=>x_ex (H.g 22 3)) ?_
 refine .e rfl (V:=.int .i64 (ferr c.c)) (fun H=>x_ex (H.g 22 3)) ?_
 refine .al rfl zF ?_
 refine .so rfl 6 (fun H=>⟨H.r 8 6,H.g 26 4⟩) ?_
 refine .mv rfl 5 ?_
 refine .dk (fun u=>.agg #[pt b1,x2,x3,pt b4]::sq u1 0 3 (u2 6::u2 8::u3 6::u3 8::u 6::u 8::u2 3::sq u2 0 3 (u2 4::u2 5::u3 3::sq u3 0 3 (u3 4::u3 5::u 3::sq u 0 3 (u 4::u 5::us 15))))) K12 bel fun u4 w4 D bel=>?_
 obtain ⟨b13,E4_6,A13,B13⟩:=D.st 7
 have E4_8:=D.q 8
 have N7_13:=D.n1 6 (lt_of B7) E4_6
 replace B7:=D.k B7
 replace B9:=D.k B9
 replace B11:=D.k B11
 clear D
 refine wp_seq_k fun _ K14=>?_
 rcases Bool.eq_false_or_eq_true ((ferr c.a) != 0) with c16|c16
 ·
  refine gs 10 (Amb S W) fun _ K15=>?_
  refine .mz rfl 5 E2_8 ?_
  refine .e rfl (V:=.bool true) (fun H=>x_cm (H.g 28 0) (H.c _) c16) ?_
  refine .mv rfl 1 ?_
  refine .sk rfl 2 ?_
  refine .sk rfl 2 ?_
  refine .e rfl (fun H=>x_pkT (H.g 30 2) (H.c _)) ?_
  refine .mv rfl 5 ?_
  refine .sk rfl 6 ?_
  refine .sk rfl 6 ?_
  refine .e rfl (fun H=>x_pkT (H.g 34 6) (H.c _)) ?_
  refine .dk (fun u=>.agg #[pt b1,x2,x3,pt b4]::sq u1 0 3 (u2 6::u2 8::u3 6::u3 8::u4 6::u4 8::u2 3::sq u2 0 3 (u2 4::u2 5::u3 3::sq u3 0 3 (u3 4::u3 5::u4 3::sq u4 0 3 (u4 4::u4 5::sq u 0 10 (us 5)))))) K15 bel fun u5 w5 D bel=>?_
  have E5_9:=D.q 9
  replace B7:=D.k B7
  replace B9:=D.k B9
  replace B11:=D.k B11
  replace B13:=D.k B13
  clear D
  refine wp_cond_true (by exact E5_9) ?_
  refine gs1 3 (Amb S W) 1 B7 fun _ K17=>?_
  refine .e rfl (V:=.agg zCi) (fun H=>by clear H;go_simp) ?_
  refine .s1 rfl B7 (fun H=>⟨H.z 2 E1_1,H.g 38 0⟩) ?_
  refine .mc rfl ?_
  refine .d1 (fun u=>.agg #[pt b1,x2,x3,pt b4]::u1 0::u1 1::u 2::u2 6::u2 8::u3 6::u3 8::u4 6::u4 8::u2 3::sq u2 0 3 (u2 4::u2 5::u3 3::sq u3 0 3 (u3 4::u3 5::u4 3::sq u4 0 3 (u4 4::u4 5::sq u5 0 10 (u 0::us 4))))) K17 bel A7 fun u6 w6 D bel=>?_
  have E6_2:=D.q 2
  replace B7:=D.ol 1
  clear D
  refine wp_ret ?_
  refine ret_ok rfl (by exact results_mix rfl (by exact E1_1) B7 Tryz.underlying29 rfl (by kernel_rfl) (by exact E6_2)) (RetV.mk ?_ bel)
  exact congrArg Ending.returned (ccut_no (.inl c16))
 ·
  rcases Bool.eq_false_or_eq_true ((gerr c.b) != 0) with c18|c18
  ·
   refine gs 10 (Amb S W) fun _ K15=>?_
   refine .mz rfl 5 E2_8 ?_
   refine .e rfl (V:=.bool false) (fun H=>x_cm (H.g 28 0) (H.c _) c16) ?_
   refine .mv rfl 1 ?_
   refine .mz rfl 7 E3_8 ?_ (hg:=gq 2 rfl)
   refine .e rfl (V:=.bool true) (fun H=>x_cm (H.g 31 3) (H.c _) c18) ?_ (hg:=gq 2 rfl)
   refine .e rfl (fun H=>x_pkF (H.g 30 2) (H.g 32 4)) ?_
   refine .mv rfl 5 ?_
   refine .sk rfl 6 ?_
   refine .sk rfl 6 ?_
   refine .e rfl (fun H=>x_pkT (H.g 34 6) (H.c _)) ?_
   refine .dk (fun u=>.agg #[pt b1,x2,x3,pt b4]::sq u1 0 3 (u2 6::u2 8::u3 6::u3 8::u4 6::u4 8::u2 3::sq u2 0 3 (u2 4::u2 5::u3 3::sq u3 0 3 (u3 4::u3 5::u4 3::sq u4 0 3 (u4 4::u4 5::sq u 0 10 (us 5)))))) K15 bel fun u5 w5 D bel=>?_
   have E5_9:=D.q 9
   replace B7:=D.k B7
   replace B9:=D.k B9
   replace B11:=D.k B11
   replace B13:=D.k B13
   clear D
   refine wp_cond_true (by exact E5_9) ?_
   refine gs1 3 (Amb S W) 1 B7 fun _ K19=>?_
   refine .e rfl (V:=.agg zCi) (fun H=>by clear H;go_simp) ?_
   refine .s1 rfl B7 (fun H=>⟨H.z 2 E1_1,H.g 38 0⟩) ?_
   refine .mc rfl ?_
   refine .d1 (fun u=>.agg #[pt b1,x2,x3,pt b4]::u1 0::u1 1::u 2::u2 6::u2 8::u3 6::u3 8::u4 6::u4 8::u2 3::sq u2 0 3 (u2 4::u2 5::u3 3::sq u3 0 3 (u3 4::u3 5::u4 3::sq u4 0 3 (u4 4::u4 5::sq u5 0 10 (u 0::us 4))))) K19 bel A7 fun u6 w6 D bel=>?_
   have E6_2:=D.q 2
   replace B7:=D.ol 1
   clear D
   refine wp_ret ?_
   refine ret_ok rfl (by exact results_mix rfl (by exact E1_1) B7 Tryz.underlying29 rfl (by kernel_rfl) (by exact E6_2)) (RetV.mk ?_ bel)
   exact congrArg Ending.returned (ccut_no (.inr (.inl c18)))
  ·
   refine gs 10 (Amb S W) fun _ K15=>?_
   refine .mz rfl 5 E2_8 ?_
   refine .e rfl (V:=.bool false) (fun H=>x_cm (H.g 28 0) (H.c _) c16) ?_
   refine .mv rfl 1 ?_
   refine .mz rfl 7 E3_8 ?_ (hg:=gq 2 rfl)
   refine .e rfl (V:=.bool false) (fun H=>x_cm (H.g 31 3) (H.c _) c18) ?_ (hg:=gq 2 rfl)
   refine .e rfl (fun H=>x_pkF (H.g 30 2) (H.g 32 4)) ?_
   refine .mv rfl 5 ?_
   refine .mz rfl 9 E4_8 ?_ (hg:=gq 6 rfl)
   refine .e rfl (V:=.bool ((ferr c.c) != 0)) (fun H=>x_cmp (H.g 35 7) (H.c _)) ?_ (hg:=gq 6 rfl)
   refine .e rfl (fun H=>x_pkF (H.g 34 6) (H.g 36 8)) ?_
   refine .dk (fun u=>.agg #[pt b1,x2,x3,pt b4]::sq u1 0 3 (u2 6::u2 8::u3 6::u3 8::u4 6::u4 8::u2 3::sq u2 0 3 (u2 4::u2 5::u3 3::sq u3 0 3 (u3 4::u3 5::u4 3::sq u4 0 3 (u4 4::u4 5::sq u 0 10 (us 5)))))) K15 bel fun u5 w5 D bel=>?_
   have E5_9:=D.q 9
   replace B7:=D.k B7
   replace B9:=D.k B9
   replace B11:=D.k B11
   replace B13:=D.k B13
   clear D
   rcases Bool.eq_false_or_eq_true ((ferr c.c) != 0) with c20|c20
   ·
    refine wp_cond_true ((E5_9).trans (congrArg Value.bool c20)) ?_
    refine gs1 3 (Amb S W) 1 B7 fun _ K21=>?_
    refine .e rfl (V:=.agg zCi) (fun H=>by clear H;go_simp) ?_
    refine .s1 rfl B7 (fun H=>⟨H.z 2 E1_1,H.g 38 0⟩) ?_
    refine .mc rfl ?_
    refine .d1 (fun u=>.agg #[pt b1,x2,x3,pt b4]::u1 0::u1 1::u 2::u2 6::u2 8::u3 6::u3 8::u4 6::u4 8::u2 3::sq u2 0 3 (u2 4::u2 5::u3 3::sq u3 0 3 (u3 4::u3 5::u4 3::sq u4 0 3 (u4 4::u4 5::sq u5 0 10 (u 0::us 4))))) K21 bel A7 fun u6 w6 D bel=>?_
    have E6_2:=D.q 2
    replace B7:=D.ol 1
    clear D
    refine wp_ret ?_
    refine ret_ok rfl (by exact results_mix rfl (by exact E1_1) B7 Tryz.underlying29 rfl (by kernel_rfl) (by exact E6_2)) (RetV.mk ?_ bel)
    exact congrArg Ending.returned (ccut_no (.inr (.inr c20)))
   ·
    refine wp_cond_false ((E5_9).trans (congrArg Value.bool c20)) ?_
    refine wp_skip ?_
    refine K14 _ _ ?_
    refine gs1 6 (Amb S W) 4 B7 fun _ K22=>?_
    refine .e rfl (fun H=>x_ldr (H.z 4 E2_6) (H.b1 B9 N7_9)) ?_
    refine .e rfl (fun H=>x_ldr (H.z 6 E3_6) (H.b1 B11 N7_11)) ?_
    refine .e rfl (fun H=>x_ldr (H.z 8 E4_6) (H.b1 B13 N7_13)) ?_
    refine .e rfl (V:=rciV (RCi.mk (fcut c.a) (gcut c.b) (fcut c.c))) (fun H=>by have e39:=H.g 39 0;have e40:=H.g 40 1;have e41:=H.g 41 2;clear H;go_simp) ?_
    refine .s1 rfl B7 (fun H=>⟨H.z 2 E1_1,H.g 42 3⟩) ?_
    refine .mc rfl ?_
    refine .d1 (fun u=>.agg #[pt b1,x2,x3,pt b4]::u1 0::u1 1::u 5::u2 6::u2 8::u3 6::u3 8::u4 6::u4 8::u2 3::sq u2 0 3 (u2 4::u2 5::u3 3::sq u3 0 3 (u3 4::u3 5::u4 3::sq u4 0 3 (u4 4::u4 5::sq u5 0 10 (U::sq u 0 4 []))))) K22 bel A7 fun u7 w7 D bel=>?_
    have E7_5:=D.q 5
    replace B7:=D.ol 4
    clear D
    refine wp_ret ?_
    refine ret_ok rfl (by exact results_mix rfl (by exact E1_1) B7 Tryz.underlying29 rfl (by kernel_rfl) (by exact E7_5)) (RetV.mk ?_ bel)
    exact congrArg Ending.returned (ccut_yes c16 c18 c20)
theorem dsTouch {v0:Value} {v1:Value} (c:Ci) (d:Ci) (t0:(RingP c).p S v0 W) (t1:(RingP d).p S v1 W) (p0:ht c.a+ht c.b.re+ht c.b.im+ht c.c+(ht d.a+ht d.b.re+ht d.b.im+ht d.c)≤67108000) :
  Calls Tryz.prog 226 #[v0,v1] W (RetV (.bool (c.touch d)) W):=by
 obtain ⟨b1,x2,x3,b4,rfl,L1,L4,F1,F_x2,F_x3,F4⟩:=RingP.elim t0
 replace L1:Amb S W b1:=.inl L1
 replace F_x2:(RatN c.b.re).p (Amb S W) x2 W:=(RatN c.b.re).mono (fun _ _ h=>.inl h) F_x2
 replace F_x3:(RatN c.b.im).p (Amb S W) x3 W:=(RatN c.b.im).mono (fun _ _ h=>.inl h) F_x3
 replace L4:Amb S W b4:=.inl L4
 obtain ⟨b5,x6,x7,b8,rfl,L5,L8,F5,F_x6,F_x7,F8⟩:=RingP.elim t1
 replace L5:Amb S W b5:=.inl L5
 replace F_x6:(RatN d.b.re).p (Amb S W) x6 W:=(RatN d.b.re).mono (fun _ _ h=>.inl h) F_x6
 replace F_x7:(RatN d.b.im).p (Amb S W) x7 W:=(RatN d.b.im).mono (fun _ _ h=>.inl h) F_x7
 replace L8:Amb S W b8:=.inl L8
 have h1:=dot_ht c d
 have h2:=out_ht d
 have z2:ht (Rat.divInt (1:Int) (1:Int))=2:=by decide
 have bel:=b0 W
 go_enter Tryz.func226,Tryz.ntmps226
 refine gs 3 (Amb S W) fun _ K9=>?_
 refine .bx rfl (fun H=>H.v 0 (.agg #[pt b1,x2,x3,pt b4])) ?_
 refine .bx rfl (fun H=>H.v 1 (.agg #[pt b5,x6,x7,pt b8])) ?_
 refine .mc rfl ?_
 refine .dk (fun u=>.agg #[pt b1,x2,x3,pt b4]::.agg #[pt b5,x6,x7,pt b8]::sq u 0 3 (us 13)) K9 bel fun u1 w1 D bel=>?_
 obtain ⟨b10,E1_0,A10,B10⟩:=D.nw 0
 obtain ⟨b11,E1_1,A11,B11⟩:=D.nw 1
 have E1_2:=D.q 2
 replace F1:=D.o L1 F1
 replace F4:=D.o L4 F4
 replace F5:=D.o L5 F5
 replace F8:=D.o L8 F8
 replace F_x2:=D.gr (RatN c.b.re) F_x2
 replace F_x3:=D.gr (RatN c.b.im) F_x3
 replace F_x6:=D.gr (RatN d.b.re) F_x6
 replace F_x7:=D.gr (RatN d.b.im) F_x7
 clear D
 rcases Bool.eq_false_or_eq_true ((icmp ((c.dot d).num*((Rat.divInt (1:Int) (1:Int)).den:Int)) ((Rat.divInt (1:Int) (1:Int)).num*((c.dot d).den:Int))) == 0) with c13|c13
 ·
  refine gd 14 (Amb S W) fun _ K12=>?_
  refine .lr rfl 2 E1_0 B10 ?_
  refine .lr rfl 3 E1_1 B11 ?_
  refine .cR rfl [] Tryz.func214 (fun H=>⟨_,ar2 (H.g 5 0) (H.g 6 1),dsBy _ _ (RingP.mk (H.was _ [] (VP.at F1 L1)) (H.was _ [] F_x2) (H.was _ [] F_x3) (H.was _ [] (VP.at F4 L4))) (RingP.mk (H.was _ [] (VP.at F5 L5)) (H.was _ [] F_x6) (H.was _ [] F_x7) (H.was _ [] (VP.at F8 L8))) (by omega)⟩) ?_
  refine .cR rfl [] Tryz.func132 (fun H=>⟨_,ar2 (H.c (.int .i64 1)) (H.c (.int .i64 1)),qNewRat _ _ (by omega) (by omega) (by omega) (by omega) (by omega)⟩) ?_
  refine .cK rfl Tryz.func175 (fun H=>⟨_,ar2 (H.r 7 2) (H.r 8 3),qCmp _ _ (SV.any (H.a 2 rfl)) (SV.any (H.a 3 rfl)) (by omega)⟩) ?_
  refine .e rfl (V:=.bool true) (fun H=>x_cm (H.g 9 4) (H.c _) c13) ?_
  refine .mv rfl 5 ?_
  refine .lr rfl 2 E1_0 B10 ?_ (hg:=gq 6 rfl)
  refine .lr rfl 3 E1_1 B11 ?_ (hg:=gq 6 rfl)
  refine .cR rfl [] Tryz.func116 (fun H=>⟨_,ar1 (H.g 13 8),dsOut _ (RingP.mk (H.was _ [] (VP.at F5 L5)) (H.was _ [] F_x6) (H.was _ [] F_x7) (H.was _ [] (VP.at F8 L8))) (by omega)⟩) ?_ (hg:=gq 6 rfl)
  refine .cK rfl Tryz.func272 (fun H=>⟨_,ar2 (H.g 12 7) (H.r 14 9),dsSame _ _ (RingP.mk (VP.any _ (H.was _ [] (VP.at F1 L1))) (VP.any _ (H.was _ [] F_x2)) (VP.any _ (H.was _ [] F_x3)) (VP.any _ (H.was _ [] (VP.at F4 L4)))) (SV.any (H.a 9 rfl)) (by omega)⟩) ?_ (hg:=gq 6 rfl)
  refine .e rfl (V:=.bool (!(decide (c=d.out)))) (fun H=>x_not (H.g 15 10)) ?_ (hg:=gq 6 rfl)
  refine .e rfl (fun H=>x_pkT (H.g 11 6) (H.g 16 11)) ?_
  refine .mv rfl 12 ?_
  refine .dk (fun u=>.agg #[pt b1,x2,x3,pt b4]::.agg #[pt b5,x6,x7,pt b8]::u1 0::u1 1::u 13::sq u 0 13 []) K12 bel fun u2 w2 D bel=>?_
  have E2_13:=D.q 13
  clear D
  exact wp_ret (rt rfl E2_13 (touch_1 c13) bel)
 ·
  refine gd 14 (Amb S W) fun _ K12=>?_
  refine .lr rfl 2 E1_0 B10 ?_
  refine .lr rfl 3 E1_1 B11 ?_
  refine .cR rfl [] Tryz.func214 (fun H=>⟨_,ar2 (H.g 5 0) (H.g 6 1),dsBy _ _ (RingP.mk (H.was _ [] (VP.at F1 L1)) (H.was _ [] F_x2) (H.was _ [] F_x3) (H.was _ [] (VP.at F4 L4))) (RingP.mk (H.was _ [] (VP.at F5 L5)) (H.was _ [] F_x6) (H.was _ [] F_x7) (H.was _ [] (VP.at F8 L8))) (by omega)⟩) ?_
  refine .cR rfl [] Tryz.func132 (fun H=>⟨_,ar2 (H.c (.int .i64 1)) (H.c (.int .i64 1)),qNewRat _ _ (by omega) (by omega) (by omega) (by omega) (by omega)⟩) ?_
  refine .cK rfl Tryz.func175 (fun H=>⟨_,ar2 (H.r 7 2) (H.r 8 3),qCmp _ _ (SV.any (H.a 2 rfl)) (SV.any (H.a 3 rfl)) (by omega)⟩) ?_
  refine .e rfl (V:=.bool false) (fun H=>x_cm (H.g 9 4) (H.c _) c13) ?_
  refine .mv rfl 5 ?_
  refine .sk rfl 6 ?_
  refine .sk rfl 6 ?_
  refine .sk rfl 6 ?_
  refine .sk rfl 6 ?_
  refine .sk rfl 6 ?_
  refine .e rfl (fun H=>x_pkF (H.g 11 6) (H.c _)) ?_
  refine .mv rfl 12 ?_
  refine .dk (fun u=>.agg #[pt b1,x2,x3,pt b4]::.agg #[pt b5,x6,x7,pt b8]::u1 0::u1 1::u 13::sq u 0 13 []) K12 bel fun u2 w2 D bel=>?_
  have E2_13:=D.q 13
  clear D
  exact wp_ret (rt rfl E2_13 (touch_0 c13) bel)
end Go.Proofs.YtcpjdjnaipbieaaGreat
namespace Go.Proofs.YtcpjdjnaipbieaaGreat
open Go.RowKit Rgn Eng
set_option maxHeartbeats 8000000
set_option maxRecDepth 100000
variable {S:Nat→Prop} {W:World}
theorem rgTold {v0:Value} (c:Ci) (t0:(RingP c).p S v0 W) (p0:ht c.a+ht c.b.re+ht c.b.im+ht c.c≤1073741824) (p1:c.flat=false):Calls Tryz.prog 142 #[v0] W (RetV (.tuple #[rciV (cicut c.nrm),.int .i64 (cierr c.nrm)]) W):=by
 have h1:=nrm_ht c
 have h2:=piv_ht c
 unfold Ci.hh Cx.hh at h2
 refine Run.goP (S:=S) (Pack.nil.s spRing t0) Tryz.func142 rfl ?_
 refine Run.cR spRing (fun _ _ _ H=>rgNorm c (RingP.mk (H.f 0) (H.f 1) (H.f 2) (H.f 3)) p0 p1) ?_
 refine Run.cV ((rfC (fcut c.nrm.a)).toList++[.int .i64 (ferr c.nrm.a)]) (.tup [.agg (ks 0 4),.o (.k 4)]) (fun _ _ _ H=>eFrac c.nrm.a (RatP.n (H.f 4)) (by first|omega|(dsimp only at *;omega)|exact p1)) ?_
 refine Run.cV ((rgC (gcut c.nrm.b)).toList++[.int .i64 (gerr c.nrm.b)]) (.tup [.agg (ks 0 8),.o (.k 8)]) (fun _ _ _ H=>eTold c.nrm.b (NumP.mk (H.f 5) (H.f 6)) (by first|omega|(dsimp only at *;omega)|exact p1)) ?_
 refine Run.cV ((rfC (fcut c.nrm.c)).toList++[.int .i64 (ferr c.nrm.c)]) (.tup [.agg (ks 0 4),.o (.k 4)]) (fun _ _ _ H=>eFrac c.nrm.c (RatP.n (H.f 7)) (by first|omega|(dsimp only at *;omega)|exact p1)) ?_
 refine Run.ic (ferr c.nrm.a) 0 ((ferr c.nrm.a) != 0) ?_
 refine (Bool.eq_false_or_eq_true ((ferr c.nrm.a) != 0)).elim (fun c1=>?_) (fun c1=>?_)
 · refine Run.kn c1 ?_
   exact Run.rV (ccut_no (.inl c1))
 · refine Run.kn c1 ?_
   refine Run.ic (gerr c.nrm.b) 0 ((gerr c.nrm.b) != 0) ?_
   refine (Bool.eq_false_or_eq_true ((gerr c.nrm.b) != 0)).elim (fun c2=>?_) (fun c2=>?_)
   · refine Run.kn c2 ?_
     exact Run.rV (ccut_no (.inr (.inl c2)))
   · refine Run.kn c2 ?_
     refine Run.ic (ferr c.nrm.c) 0 ((ferr c.nrm.c) != 0) ?_
     refine (Bool.eq_false_or_eq_true ((ferr c.nrm.c) != 0)).elim (fun c3=>?_) (fun c3=>?_)
     · refine Run.kn c3 ?_
       exact Run.rV (ccut_no (.inr (.inr c3)))
     · refine Run.kn c3 ?_
       exact Run.rV (ccut_yes c1 c2 c3)
end Go.Proofs.YtcpjdjnaipbieaaGreat
namespace Go.Proofs.YtcpjdjnaipbieaaGreat
open Go.RowKit Rgn
noncomputable def valM (r:RF):Rat:=if h:fmay r=true then (fmay_ex h).choose else 0
theorem valM_rf {q:Rat} (h:fmay (rf q)=true):valM (rf q)=q:=by
 unfold valM
 rw [dif_pos h]
 exact (rf_inj (fmay_ex h).choose_spec).symm
theorem ratw_yes {x y:Int} (h0:¬ y<0) (h1:¬ y.natAbs=0) (h2:¬ (1024:Int)<(((bS x.natAbs).size:Nat):Int)) (h3:¬ (1024:Int)<(((bS y.natAbs).size:Nat):Int))
  (h4:((icmp ((Rat.divInt x y).num) x) != 0)=false) (h5:((icmp ((Rat.divInt x y).den:Int) y) != 0)=false):fmay (RF.mk (rw x) (rw y))=true:=by
 have e4:(Rat.divInt x y).num=x:=icmp0.1 (by simpa using h4)
 have e5:((Rat.divInt x y).den:Int)=y:=icmp0.1 (by simpa using h5)
 have e:RF.mk (rw x) (rw y)=rf (Rat.divInt x y):=by
  show _=RF.mk (rw (Rat.divInt x y).num) (rw ((Rat.divInt x y).den:Int))
  rw [e4,e5]
 have hf:fits (RF.mk (rw x) (rw y))=true:=by
  unfold fits
  show (decide ((bS x.natAbs).size≤1024)&&decide ((bS y.natAbs).size≤1024))=true
  rw [decide_eq_true (by omega),decide_eq_true (by omega)];rfl
 unfold fmay
 rw [hf,e,fformed_rf];rfl
open Classical in
open Classical in
noncomputable def dsOk (r:RCi):Bool:=decide (∃ c,r=rci c∧cifits (rci c)=true∧c.dot c=-1)
open Classical in
open Classical in
noncomputable def pnOk (r:RPn):Bool:=if r.inf=true then decide (r=RPn.mk true rz) else gmay r.z
theorem plate_eq (c:Ci):Value.bool (icmp ((c.dot c).num*((Rat.divInt (-1:Int) (1:Int)).den:Int)) ((Rat.divInt (-1:Int) (1:Int)).num*((c.dot c).den:Int)) == 0)=.bool (decide (c.dot c=-1)):=by
 rw [icmp_b,divInt_one];rfl
theorem spot_1 {r:RPn} (h:r.inf=true):Value.bool (decide (r=RPn.mk true rz))=.bool (pnOk r):=by unfold pnOk;rw [if_pos h]
theorem spot_0 {r:RPn} (h:r.inf=false):Value.bool (gmay r.z)=.bool (pnOk r):=by unfold pnOk;rw [if_neg (by rw [h];decide)]
theorem dsOk_ex {r:RCi} (h:dsOk r=true):∃ c,r=rci c∧cifits (rci c)=true∧c.dot c=-1:=by
 unfold dsOk at h;classical exact of_decide_eq_true h
theorem dsOk_c {c:Ci} (h:dsOk (rci c)=true):cifits (rci c)=true∧c.dot c=-1:=by
 obtain ⟨d,e,h⟩:=dsOk_ex h
 obtain rfl:=rci_inj e
 exact h
theorem ci_of {r:RCi} (h1:fmay r.a=true) (h2:gmay r.b=true) (h3:fmay r.c=true):∃ c,r=rci c∧cifits (rci c)=true:=by
 obtain ⟨a,b,c⟩:=r
 obtain ⟨x,rfl⟩:=fmay_ex h1
 obtain ⟨y,rfl⟩:=gmay_ex h2
 obtain ⟨z,rfl⟩:=fmay_ex h3
 refine ⟨⟨x,y,z⟩,rfl,?_⟩
 show (fits (rf x)&&gfits (rg y)&&fits (rf z))=true
 rw [gmay_rg] at h2
 rw [(and_tt h1).1,h2,(and_tt h3).1];rfl
theorem dsOk_no {r:RCi} (h:dsOk r=false):¬ ∃ c,r=rci c∧cifits (rci c)=true∧c.dot c=-1:=by unfold dsOk at h;classical exact of_decide_eq_false h
theorem dsOk_yes {c:Ci} (h1:cifits (rci c)=true) (h2:c.dot c=-1):dsOk (rci c)=true:=by unfold dsOk;classical exact decide_eq_true ⟨c,rfl,h1,h2⟩
theorem ht_dvI {a b:Int} (h:0<b) {n:Nat} (h1:max (hi a) (hi b)≤n):ht (Rat.divInt a b)≤n+1:=by
 obtain ⟨m,rfl⟩:=Int.eq_ofNat_of_zero_le (Int.le_of_lt h)
 have e:Rat.divInt a (m:Int)=mkRat a m:=rfl
 rw [e]
 have h2:=hi_bl a
 have h3:=hi_bl (m:Int)
 rw [Int.natAbs_natCast] at h3
 exact ht_mkRat a m (by omega) (by omega) (by omega)
theorem valM_no {r:RF} (h:fmay r=false):valM r=0:=by
 unfold valM
 rw [dif_neg (by rw [h];decide)]
noncomputable def gvm (r:RG):Cx:=⟨valM r.re,valM r.im⟩
end Go.Proofs.YtcpjdjnaipbieaaGreat
namespace Go.Proofs.YtcpjdjnaipbieaaGreat
open Go.RowKit Rgn Eng
set_option maxHeartbeats 4000000
set_option maxRecDepth 100000
variable {S:Nat→Prop} {W:World}
theorem eRatF0 (r:RF) (p0:wformed r.a=false):Calls Tryz.prog 198 #[rfV r] W (RetV (.pointer none) W):=by
 refine Run.goP (S:=Z0) (Pack.nil.k (rfV r) (rfC r).toList (.s (.agg (ks 0 4)))) Tryz.func198 rfl ?_
 refine Run.cV [.bool (wformed r.a)] kb (fun _ _ _ H=>eFormed r.a) ?_
 refine Run.kn p0 ?_
 exact Run.rV rfl
theorem eRatF1 (r:RF) (p0:wformed r.a=true) (p1:wformed r.b=false):Calls Tryz.prog 198 #[rfV r] W (RetV (.pointer none) W):=by
 refine Run.goP (S:=Z0) (Pack.nil.k (rfV r) (rfC r).toList (.s (.agg (ks 0 4)))) Tryz.func198 rfl ?_
 refine Run.cV [.bool (wformed r.a)] kb (fun _ _ _ H=>eFormed r.a) ?_
 refine Run.kn p0 ?_
 refine Run.cV [.bool (wformed r.b)] kb (fun _ _ _ H=>eFormed r.b) ?_
 refine Run.kn p1 ?_
 exact Run.rV rfl
theorem eRatW (g:Int×Int) (p0:fmay (RF.mk (rw g.1) (rw g.2))=false):Calls Tryz.prog 198 #[wwV g] W (RetV (.pointer none) W):=by
 have b1:hi g.1≤8*(bS g.1.natAbs).size+1:=hi_bytes g.1
 have b2:hi g.2≤8*(bS g.2.natAbs).size+1:=hi_bytes g.2
 have b3:=hi_num (Rat.divInt g.1 g.2)
 have b4:=hi_den (Rat.divInt g.1 g.2)
 refine Run.goP (S:=Z0) (Pack.nil.k (wwV g) ((wC g.1).toList++(wC g.2).toList) (.s (.agg (ks 0 4)))) Tryz.func198 rfl ?_
 refine Run.cV [.bool (wformed (rw g.1))] kb (fun _ _ _ H=>eFormed (rw g.1)) ?_
 refine Run.kn (wformed_rw g.1) ?_
 refine Run.cV [.bool (wformed (rw g.2))] kb (fun _ _ _ H=>eFormed (rw g.2)) ?_
 refine Run.kn (wformed_rw g.2) ?_
 rcases Bool.eq_false_or_eq_true (decide (g.2<0)) with c5|c5
 · refine Run.kn c5 ?_
   exact Run.rV rfl
 refine Run.kn c5 ?_
 rcases Bool.eq_false_or_eq_true (decide (g.2.natAbs=0)) with c7|c7
 · refine Run.bi (op:=.eql) (t:=9) (a:=.string (bS g.2.natAbs)) (c:=.string ⟨#[]⟩) [] (cb true) (fun w o ρ u v t' ho hx hy=>ex_seq Tryz.underlying9 _ c7 ho hx hy) ?_
   exact Run.rV rfl
 refine Run.bi (op:=.eql) (t:=9) (a:=.string (bS g.2.natAbs)) (c:=.string ⟨#[]⟩) [] (cb false) (fun w o ρ u v t' ho hx hy=>ex_seq Tryz.underlying9 _ c7 ho hx hy) ?_
 refine Run.sl (bS g.1.natAbs) 9 Tryz.underlying9 ?_
 rcases Bool.eq_false_or_eq_true (decide (1024<(((bS g.1.natAbs).size:Nat):Int))) with c9|c9
 · refine Run.ik .gtr (((bS g.1.natAbs).size:Nat):Int) 1024 true (congrArg some c9) ?_
   exact Run.rV rfl
 refine Run.ik .gtr (((bS g.1.natAbs).size:Nat):Int) 1024 false (congrArg some c9) ?_
 refine Run.sl (bS g.2.natAbs) 9 Tryz.underlying9 ?_
 rcases Bool.eq_false_or_eq_true (decide (1024<(((bS g.2.natAbs).size:Nat):Int))) with c11|c11
 · refine Run.ik .gtr (((bS g.2.natAbs).size:Nat):Int) 1024 true (congrArg some c11) ?_
   exact Run.rV rfl
 refine Run.ik .gtr (((bS g.2.natAbs).size:Nat):Int) 1024 false (congrArg some c11) ?_
 have d5:=of_decide_eq_false c5
 have d7:=of_decide_eq_false c7
 have d9:=of_decide_eq_false c9
 have d11:=of_decide_eq_false c11
 have g0:=ht_dvI (a:=g.1) (show 0<g.2 by omega) (Nat.le_refl (max (hi g.1) (hi g.2)))
 refine Run.dr ?_
 refine RunD.cR spInto (fun _ _ _ H=>eWhole g.1 (by omega)) ?_
 refine RunD.cR spInto (fun _ _ _ H=>eWhole g.2 (by omega)) ?_
 refine RunD.en ?_
 refine Run.cO 1 softRat (fun _ _ _ H=>qSetFrac g.1 g.2 (RatP.blk (H.oz 1)) (IntO.p (anyV (H.f 0))) (IntO.p (anyV (H.f 1))) (by omega) (by omega)) ?_
 refine Run.se 1 ?_
 refine Run.cR spInto (fun _ _ _ H=>qNum (Rat.divInt g.1 g.2) (H.s 1) (by omega)) ?_
 refine Run.cV [.int .i64 (icmp (Rat.divInt g.1 g.2).num g.1)] kb (fun _ _ _ H=>bCmp (Rat.divInt g.1 g.2).num g.1 (IntO.p (H.f 3)) (IntO.p (H.f 0)) (by omega)) ?_
 rcases Bool.eq_false_or_eq_true (icmp (Rat.divInt g.1 g.2).num g.1 != 0) with c20|c20
 · refine Run.ik .neq (icmp (Rat.divInt g.1 g.2).num g.1) 0 true (congrArg some c20) ?_
   exact Run.rV rfl
 refine Run.ik .neq (icmp (Rat.divInt g.1 g.2).num g.1) 0 false (congrArg some c20) ?_
 refine Run.cR spInto (fun _ _ _ H=>qDenom (Rat.divInt g.1 g.2) (H.s 1) (by omega)) ?_
 refine Run.cV [.int .i64 (icmp ((Rat.divInt g.1 g.2).den:Int) g.2)] kb (fun _ _ _ H=>bCmp ((Rat.divInt g.1 g.2).den:Int) g.2 (IntO.p (H.f 4)) (IntO.p (H.f 1)) (by omega)) ?_
 rcases Bool.eq_false_or_eq_true (icmp ((Rat.divInt g.1 g.2).den:Int) g.2 != 0) with c22|c22
 · refine Run.ik .neq (icmp ((Rat.divInt g.1 g.2).den:Int) g.2) 0 true (congrArg some c22) ?_
   exact Run.rV rfl
 exact Bool.noConfusion ((ratw_yes d5 d7 d9 d11 c20 c22).symm.trans p0)
end Go.Proofs.YtcpjdjnaipbieaaGreat
namespace Go.Proofs.YtcpjdjnaipbieaaGreat
open Go.RowKit Rgn
theorem eRatF {W:World} (r:RF) (p0:fmay r=false):Calls Tryz.prog 198 #[rfV r] W (RetV (.pointer none) W):=by
 cases h0:wformed r.a with
 | false=>exact eRatF0 r h0
 | true =>
  cases h1:wformed r.b with
  | false=>exact eRatF1 r h0 h1
  | true =>
   obtain ⟨a,b⟩:=r
   obtain ⟨x,rfl⟩:=wformed_ex h0
   obtain ⟨y,rfl⟩:=wformed_ex h1
   exact eRatW (x,y) p0
theorem eRatT {S:Nat→Prop} {W:World} (r:RF) (p0:fmay r=true):Calls Tryz.prog 198 #[rfV r] W (Ret (RatP (valM r)) S W):=by
 obtain ⟨q,rfl⟩:=fmay_ex p0
 rw [valM_rf p0]
 exact eRatOk q (and_tt p0).1
theorem retOf {P:Program} {f:FuncId} {args:Array Value} {W:World} {v:Value} {φ:VP} {S:Nat→Prop} (h:Calls P f args W (RetV v W)) (hp:∀ w,φ.p (fun k=>S k∨W.heap.size≤k) v w):Calls P f args W (Ret φ S W) :=
 h.mono fun _ w' h=>by
  obtain ⟨h1,h2⟩:=h.is
  exact ⟨v,h1,hp w', h2⟩
theorem eRatA {S:Nat→Prop} {W:World} (r:RF):Calls Tryz.prog 198 #[rfV r] W (Ret (PtrP 0) S W):=by
 cases h:fmay r with
 | false=>exact retOf (eRatF r h) fun _=>⟨_,rfl⟩
 | true =>
  have g:=eRatT (S:=S) (W:=W) r h
  exact g.mono fun _ _ ⟨v,h1,h2,h3⟩=>⟨v,h1,RatN.ptr (RatP.n h2),h3⟩
end Go.Proofs.YtcpjdjnaipbieaaGreat
namespace Go.Proofs.YtcpjdjnaipbieaaGreat
open Go.RowKit Rgn Eng
set_option maxHeartbeats 4000000
set_option maxRecDepth 100000
variable {S:Nat→Prop} {W:World}
theorem eOfR (r:RG):Calls Tryz.prog 197 #[rgV r] W (Ret (VP.tup (NumP (gvm r)) (VP.is (.bool (gmay r)))) S W):=by
 cases c1:fmay r.re with
 | true=>cases c2:fmay r.im with
  | true =>
   refine Run.goP (S:=S) (Pack.nil.k (rgV r) (rgC r).toList (.s (.agg (ks 0 8)))) Tryz.func197 rfl ?_
   refine Run.dr ?_
   refine RunD.cR spRat (fun _ _ _ H=>eRatT r.re c1) ?_
   refine RunD.cR spRat (fun _ _ _ H=>eRatT r.im c2) ?_
   refine RunD.en ?_
   refine Run.np 0 (valM r.re) 176 .neq true (.inr ⟨rfl,rfl⟩) (fun c w=>by kernel_rfl) ?_
   refine Run.np 1 (valM r.im) 176 .neq true (.inr ⟨rfl,rfl⟩) (fun c w=>by kernel_rfl) ?_
   exact Run.rR (fun _ _ _ H=>⟨_,_,rfl,NumP.mk (RatP.n (H.f 0)) (RatP.n (H.f 1)),(by unfold gmay;rw [c1,c2];rfl)⟩)
  | false =>
   refine Run.goP (S:=S) (Pack.nil.k (rgV r) (rgC r).toList (.s (.agg (ks 0 8)))) Tryz.func197 rfl ?_
   refine Run.dr ?_
   refine RunD.cR spRat (fun _ _ _ H=>eRatT r.re c1) ?_
   refine RunD.cV [] (.s (.o (.c (.pointer none)))) (fun _ _ _ H=>eRatF r.im c2) ?_
   refine RunD.en ?_
   refine Run.np 0 (valM r.re) 176 .neq true (.inr ⟨rfl,rfl⟩) (fun c w=>by kernel_rfl) ?_
   refine Run.bi (op:=.neq) (t:=176) (a:=.pointer none) (c:=.pointer none) [] (cb false) (fun w o ρ x y t' ho hx hy=>ex_zn (fun w=>by kernel_rfl) ho hx hy) ?_
   exact Run.rR (fun _ _ _ H=>⟨_,_,rfl,NumP.mk (RatP.n (H.f 0)) (.inl ⟨rfl,valM_no c2⟩),(by unfold gmay;rw [c1,c2];rfl)⟩)
 | false=>cases c2:fmay r.im with
  | true =>
   refine Run.goP (S:=S) (Pack.nil.k (rgV r) (rgC r).toList (.s (.agg (ks 0 8)))) Tryz.func197 rfl ?_
   refine Run.dr ?_
   refine RunD.cV [] (.s (.o (.c (.pointer none)))) (fun _ _ _ H=>eRatF r.re c1) ?_
   refine RunD.cR spRat (fun _ _ _ H=>eRatT r.im c2) ?_
   refine RunD.en ?_
   refine Run.bi (op:=.neq) (t:=176) (a:=.pointer none) (c:=.pointer none) [] (cb false) (fun w o ρ x y t' ho hx hy=>ex_zn (fun w=>by kernel_rfl) ho hx hy) ?_
   exact Run.rR (fun _ _ _ H=>⟨_,_,rfl,NumP.mk (.inl ⟨rfl,valM_no c1⟩) (RatP.n (H.f 0)),(by unfold gmay;rw [c1,c2];rfl)⟩)
  | false =>
   refine Run.goP (S:=S) (Pack.nil.k (rgV r) (rgC r).toList (.s (.agg (ks 0 8)))) Tryz.func197 rfl ?_
   refine Run.dr ?_
   refine RunD.cV [] (.s (.o (.c (.pointer none)))) (fun _ _ _ H=>eRatF r.re c1) ?_
   refine RunD.cV [] (.s (.o (.c (.pointer none)))) (fun _ _ _ H=>eRatF r.im c2) ?_
   refine RunD.en ?_
   refine Run.bi (op:=.neq) (t:=176) (a:=.pointer none) (c:=.pointer none) [] (cb false) (fun w o ρ x y t' ho hx hy=>ex_zn (fun w=>by kernel_rfl) ho hx hy) ?_
   exact Run.rR (fun _ _ _ H=>⟨_,_,rfl,NumP.mk (.inl ⟨rfl,valM_no c1⟩) (.inl ⟨rfl,valM_no c2⟩),(by unfold gmay;rw [c1,c2];rfl)⟩)
theorem eSpotZ (z:Cx) (p0:gfits (rg z)=true):Calls Tryz.prog 156 #[pnV (Pn.mk false z)] W (Ret (VP.tup (PlaceP ⟨false,z⟩) (VP.is (.bool true))) S W):=by
 refine Run.goP (S:=S) (Pack.nil.k (rpnV ⟨false,rg z⟩) (rpnC ⟨false,rg z⟩).toList (.s (.agg (ks 0 9)))) Tryz.func156 rfl ?_
 refine Run.kn (b:=false) (c:=false) rfl ?_
 refine Run.cR spNumK (fun _ _ _ H=>eOf z p0) ?_
 exact Run.rR (fun _ _ _ H=>⟨_,_,rfl,PlaceP.mk (H.f 0) (H.f 1),rfl⟩)
theorem eSpotJ (r:RPn):Calls Tryz.prog 156 #[rpnV r] W (Ret (VP.tup (PlaceJ 0) (VP.is (.bool (pnOk r)))) S W):=by
 refine Run.goP (S:=S) (Pack.nil.k (rpnV r) (rpnC r).toList (.s (.agg (ks 0 9)))) Tryz.func156 rfl ?_
 cases c:r.inf with
 | true =>
  refine Run.kn c ?_
  refine Run.dr ?_
  refine RunD.bi [.bool (decide (r=RPn.mk true rz))] kb (fun _ _ _ o1 o2 _ ho hx hy=>ex_eql_pn (r:=r) (q:=(RPn.mk true rz)) o1 o2 ho hx hy rfl) ?_
  refine RunD.en ?_
  exact Run.rR (fun _ _ _ H=>⟨_,_,rfl,(PlaceJ.mk (show Value.oneCell' (.bool true)=true from rfl) ⟨none,rfl⟩ ⟨none,rfl⟩),(spot_1 c)⟩)
 | false =>
  refine Run.kn c ?_
  refine Run.cR spNumK (fun _ _ _ H=>eOfR r.z) ?_
  exact Run.rR (fun _ _ _ H=>⟨_,_,rfl,(PlaceJ.mk (show Value.oneCell' (.bool false)=true from rfl) (RatN.ptr (q:=(gvm r.z).re) (H.f 0)) (RatN.ptr (q:=(gvm r.z).im) (H.f 1))),(spot_0 c)⟩)
end Go.Proofs.YtcpjdjnaipbieaaGreat
namespace Go.Proofs.YtcpjdjnaipbieaaGreat
open Go.RowKit Rgn
set_option maxHeartbeats 4000000
set_option maxRecDepth 100000
variable {S:Nat→Prop} {W:World}
theorem ePlateA (r:RCi) (p0:gmay r.b=false) :
  Calls Tryz.prog 210 #[rciV r] W (RetV (.tuple #[.agg #[.pointer none,.pointer none,.pointer none,.pointer none],.bool false]) W):=by
 have bel:=b0 W
 go_enter Tryz.func210,Tryz.ntmps210
 refine gs 3 (Amb Z0 W) fun _ K1=>?_
 refine .bx rfl (fun H=>H.v 0 (rciV r)) ?_
 refine .al rfl (#[.pointer none,.pointer none,.pointer none,.pointer none]) ?_
 refine .mc rfl ?_
 refine .dk (fun u=>rciV r::sq u 0 3 (us 37)) K1 bel fun u1 w1 D bel=>?_
 obtain ⟨b2,E1_0,A2,B2⟩:=D.nw 0
 obtain ⟨b3,E1_1,A3,B3⟩:=D.nw 1
 have E1_2:=D.q 2
 have N2_3:=D.n2 0 1 E1_0 E1_1
 clear D
 refine gs 9 (Amb Z0 W) fun _ K4=>?_
 refine .fz rfl 1 4 E1_0 ?_
 refine .lp rfl 0 (rgC r.b) B2 ?_
 refine .cR rfl [] Tryz.func197 (fun H=>⟨_,ar1 (H.g 9 1),eOfR _⟩) ?_
 refine .mn rfl 2 [2] ?_
 refine Go2.fn (i:=4) rfl (G0 rfl) (.val 4 [2,3] (NumP (gvm r.b))) (fun u μ ρ H=>by have e7:=H.r 7 3;have h0:=(H.a 3 rfl);obtain ⟨x0,x1,h1,h2⟩:=h0;rw [h1] at e7;exact ⟨x0,by clear H;go_simp,SP.tupKeep (by decide) (by decide) h2.1⟩) ?_
 refine .e rfl (V:=.bool (gmay r.b)) (fun H=>by have e7:=H.r 7 3;have h0:=(H.a 3 rfl);obtain ⟨x0,x1,h1,h2,h3⟩:=h0;rw [h1] at e7;have h3:x1=.bool (gmay r.b):=h3;subst h3;clear H;go_simp) ?_
 refine .al rfl (#[.pointer none,.pointer none]) ?_
 refine Go2.storeOwn (i:=7) (m:=6) rfl rfl (.head _) (SP.cells 6 [4] (fun u=>#[((u 4).v.cells.getD 0 undef),((u 4).v.cells.getD 1 undef)]) 178 (by intro u u' h;simp [h 4 (by simp)])) (fun u μ ρ b H h0 hB hb=>?_) ?_
 · have e4:=H.r 4 6;have e11:=H.r 11 4
   rw [h0] at e4
   obtain ⟨x1,x2,h1,h2,h3⟩:=(H.a 4 rfl)
   have o1:=VP1.ratn h2
   have o2:=VP1.ratn h3
   rw [h1] at e11
   refine ⟨μ.setRow b #[x1,x2],ex_store_row 178 _ _ rfl e4 e11 hb (by kernel_rfl) rfl (by simp [o1,o2]),fun g=>⟨b,?_,hB,?_⟩,setRow_only _ _ _⟩
   · rw [upd_other _ _ (by decide)];exact h0
   · rw [setRow_at hb];try simp [upd,h1,Value.cells]
 refine .e rfl (V:=.bool false) (fun H=>by have e12:=H.g 12 5;have k_:=p0;clear H;go_simp<;>first|(simp_all;done)|omega|exact len_gt z0_) ?_
 refine .dk (fun u=>rciV r::sq u1 0 3 (u 6::u 8::U::u 3::sq u 0 3 (u 4::u 5::us 28))) K4 bel fun u2 w2 D bel=>?_
 obtain ⟨x5,x6,E2_4,F_x5,F_x6⟩:=(D.rr 4)
 obtain ⟨b7,E2_6,A7,B7⟩:=(D.a 7 rfl)
 replace A7:=le2 D.le A7
 have E2_8:=D.q 8
 have N3_7:=D.n1 6 (lt_of B3) E2_6
 replace B2:=D.k B2
 replace B3:=D.k B3
 simp only [Value.cells,E2_4,E2_6] at B7
 replace B7:w2.heap[b7]? = some (.cells #[x5,x6] 178 (0,0)):=B7
 clear D
 refine gd 10 (Amb Z0 W) fun _ K8=>?_
 refine .fz rfl 1 0 E1_0 ?_
 refine .lp rfl 0 (rfC r.a) B2 ?_
 refine .cR rfl [] Tryz.func198 (fun H=>⟨_,ar1 (H.g 14 1),eRatA _⟩) ?_
 refine .lr rfl 4 E2_6 B7 ?_
 refine .fz rfl 1 12 E1_0 ?_
 refine .lp rfl 4 (rfC r.c) B2 ?_
 refine .cR rfl [] Tryz.func198 (fun H=>⟨_,ar1 (H.g 18 5),eRatA _⟩) ?_
 refine Go2.fn (i:=7) rfl (G0 rfl) (SP.fnL 7 [2,6] (fun u=>.agg #[(u 2).v,x5,x6,(u 6).v]) (by intro u u' h;simp [h 2 (by simp),h 6 (by simp)])) (fun u μ ρ H=>⟨_,by have e15:=H.r 15 2;have e16:=H.g 16 3;have e19:=H.r 19 6;obtain ⟨x2,h2⟩:=PtrP.isPtr (H.a 2 rfl);obtain ⟨x6,h6⟩:=PtrP.isPtr (H.a 6 rfl);clear H;go_simp,SP.fnL_upd (by decide)⟩) ?_
 refine .al rfl (#[.pointer none,.pointer none,.pointer none,.pointer none]) ?_
 refine Go2.storeOwn (i:=9) (m:=8) rfl rfl (.head _) (SP.cells 8 [2,6] (fun u=>#[(u 2).v,x5,x6,(u 6).v]) 180 (by intro u u' h;simp [h 2 (by simp),h 6 (by simp)])) (fun u μ ρ b H h0 hB hb=>?_) ?_
 · have e6:=H.r 6 8;have e20:=H.e 20 7 (by kernel_rfl) (H.a 7 rfl);have o2:=VP1.ptr (H.a 2 rfl);have o_x5:=VP1.ratn F_x5;have o_x6:=VP1.ratn F_x6;have o6:=VP1.ptr (H.a 6 rfl)
   rw [h0] at e6
   refine ⟨μ.setRow b #[(u 2).v,x5,x6,(u 6).v],ex_store_row 180 _ _ rfl e6 e20 hb (by kernel_rfl) rfl (by simp [o2,o_x5,o_x6,o6]<;>rfl),fun g=>⟨b,?_,hB,?_⟩,setRow_only _ _ _⟩
   · rw [upd_other _ _ (by decide)];exact h0
   · rw [setRow_at hb];try simp [upd]
 refine .dk (fun u=>rciV r::sq u1 0 3 (u2 6::u2 8::u 8::u2 3::sq u2 0 3 (u2 4::u2 5::sq u 0 8 (us 20)))) K8 bel fun u3 w3 D bel=>?_
 obtain ⟨x9,E3_2,F_x9⟩:∃ x_,(u3 2).v=x_∧(PtrP 0).p (Amb Z0 W) x_ w3:=⟨_,rfl,D.rr 2⟩
 obtain ⟨x10,E3_6,F_x10⟩:∃ x_,(u3 6).v=x_∧(PtrP 0).p (Amb Z0 W) x_ w3:=⟨_,rfl,D.rr 6⟩
 obtain ⟨b11,E3_8,A11,B11⟩:=(D.a 9 rfl)
 replace A11:=le2 D.le A11
 have N3_11:=D.n1 8 (lt_of B3) E3_8
 replace B3:=D.k B3
 simp only [Value.cells,E3_2,E3_6,E3_8] at B11
 replace F_x5:=D.gr (RatN ((gvm r.b).re)) F_x5
 replace F_x6:=D.gr (RatN ((gvm r.b).im)) F_x6
 clear D
 refine wp_seq_k fun _ K12=>?_
 refine gs 12 (Amb Z0 W) fun _ K13=>?_
 refine .mz rfl 5 E2_8 ?_
 refine .e rfl (V:=.bool true) (fun H=>x_not (H.g 21 0)) ?_
 refine .mv rfl 1 ?_
 refine .sk rfl 2 ?_
 refine .sk rfl 2 ?_
 refine .sk rfl 2 ?_
 refine .e rfl (fun H=>x_pkT (H.g 23 2) (H.c _)) ?_
 refine .mv rfl 6 ?_
 refine .sk rfl 7 ?_
 refine .sk rfl 7 ?_
 refine .sk rfl 7 ?_
 refine .e rfl (fun H=>x_pkT (H.g 28 7) (H.c _)) ?_
 refine .dk (fun u=>rciV r::sq u1 0 3 (u2 6::u2 8::u3 8::u2 3::sq u2 0 3 (u2 4::u2 5::sq u3 0 8 (sq u 0 12 (us 8))))) K13 bel fun u4 w4 D bel=>?_
 have E4_11:=D.q 11
 replace B3:=D.k B3
 replace B11:=D.k B11
 replace F_x5:=D.gr (RatN ((gvm r.b).re)) F_x5
 replace F_x6:=D.gr (RatN ((gvm r.b).im)) F_x6
 replace F_x9:=D.gr (PtrP 0) F_x9
 replace F_x10:=D.gr (PtrP 0) F_x10
 clear D
 refine wp_cond_true (by exact E4_11) ?_
 refine gs1 3 (Amb Z0 W) 1 B3 fun _ K14=>?_
 refine .e rfl (V:=.agg #[.pointer none,.pointer none,.pointer none,.pointer none]) (fun H=>by clear H;go_simp) ?_
 refine .s1 rfl B3 (fun H=>⟨H.z 2 E1_1,H.g 33 0⟩) ?_
 refine .mc rfl ?_
 refine .d1 (fun u=>rciV r::u1 0::u1 1::u 2::u2 6::u2 8::u3 8::u2 3::sq u2 0 3 (u2 4::u2 5::sq u3 0 8 (sq u4 0 12 (u 0::us 7)))) K14 bel A3 fun u5 w5 D bel=>?_
 have E5_2:=D.q 2
 replace B3:=D.ol 1
 clear D
 refine wp_ret ?_
 refine ret_ok rfl (by exact results_mix rfl (by exact E1_1) B3 Tryz.underlying180 rfl (by kernel_rfl) (by exact E5_2)) (RetV.mk ?_ bel)
 exact congrArg Ending.returned (rfl)
theorem ePlateB (r:RCi) (p0:gmay r.b=true) (p1:fmay r.a=false) :
  Calls Tryz.prog 210 #[rciV r] W (RetV (.tuple #[.agg #[.pointer none,.pointer none,.pointer none,.pointer none],.bool false]) W):=by
 have bel:=b0 W
 go_enter Tryz.func210,Tryz.ntmps210
 refine gs 3 (Amb Z0 W) fun _ K1=>?_
 refine .bx rfl (fun H=>H.v 0 (rciV r)) ?_
 refine .al rfl (#[.pointer none,.pointer none,.pointer none,.pointer none]) ?_
 refine .mc rfl ?_
 refine .dk (fun u=>rciV r::sq u 0 3 (us 37)) K1 bel fun u1 w1 D bel=>?_
 obtain ⟨b2,E1_0,A2,B2⟩:=D.nw 0
 obtain ⟨b3,E1_1,A3,B3⟩:=D.nw 1
 have E1_2:=D.q 2
 have N2_3:=D.n2 0 1 E1_0 E1_1
 clear D
 refine gs 9 (Amb Z0 W) fun _ K4=>?_
 refine .fz rfl 1 4 E1_0 ?_
 refine .lp rfl 0 (rgC r.b) B2 ?_
 refine .cR rfl [] Tryz.func197 (fun H=>⟨_,ar1 (H.g 9 1),eOfR _⟩) ?_
 refine .mn rfl 2 [2] ?_
 refine Go2.fn (i:=4) rfl (G0 rfl) (.val 4 [2,3] (NumP (gvm r.b))) (fun u μ ρ H=>by have e7:=H.r 7 3;have h0:=(H.a 3 rfl);obtain ⟨x0,x1,h1,h2⟩:=h0;rw [h1] at e7;exact ⟨x0,by clear H;go_simp,SP.tupKeep (by decide) (by decide) h2.1⟩) ?_
 refine .e rfl (V:=.bool (gmay r.b)) (fun H=>by have e7:=H.r 7 3;have h0:=(H.a 3 rfl);obtain ⟨x0,x1,h1,h2,h3⟩:=h0;rw [h1] at e7;have h3:x1=.bool (gmay r.b):=h3;subst h3;clear H;go_simp) ?_
 refine .al rfl (#[.pointer none,.pointer none]) ?_
 refine Go2.storeOwn (i:=7) (m:=6) rfl rfl (.head _) (SP.cells 6 [4] (fun u=>#[((u 4).v.cells.getD 0 undef),((u 4).v.cells.getD 1 undef)]) 178 (by intro u u' h;simp [h 4 (by simp)])) (fun u μ ρ b H h0 hB hb=>?_) ?_
 · have e4:=H.r 4 6;have e11:=H.r 11 4
   rw [h0] at e4
   obtain ⟨x1,x2,h1,h2,h3⟩:=(H.a 4 rfl)
   have o1:=VP1.ratn h2
   have o2:=VP1.ratn h3
   rw [h1] at e11
   refine ⟨μ.setRow b #[x1,x2],ex_store_row 178 _ _ rfl e4 e11 hb (by kernel_rfl) rfl (by simp [o1,o2]),fun g=>⟨b,?_,hB,?_⟩,setRow_only _ _ _⟩
   · rw [upd_other _ _ (by decide)];exact h0
   · rw [setRow_at hb];try simp [upd,h1,Value.cells]
 refine .e rfl (V:=.bool true) (fun H=>by have e12:=H.g 12 5;have k_:=p0;clear H;go_simp<;>first|(simp_all;done)|omega|exact len_gt z0_) ?_
 refine .dk (fun u=>rciV r::sq u1 0 3 (u 6::u 8::U::u 3::sq u 0 3 (u 4::u 5::us 28))) K4 bel fun u2 w2 D bel=>?_
 obtain ⟨x5,x6,E2_4,F_x5,F_x6⟩:=(D.rr 4)
 obtain ⟨b7,E2_6,A7,B7⟩:=(D.a 7 rfl)
 replace A7:=le2 D.le A7
 have E2_8:=D.q 8
 have N3_7:=D.n1 6 (lt_of B3) E2_6
 replace B2:=D.k B2
 replace B3:=D.k B3
 simp only [Value.cells,E2_4,E2_6] at B7
 replace B7:w2.heap[b7]? = some (.cells #[x5,x6] 178 (0,0)):=B7
 clear D
 refine gd 10 (Amb Z0 W) fun _ K8=>?_
 refine .fz rfl 1 0 E1_0 ?_
 refine .lp rfl 0 (rfC r.a) B2 ?_
 refine .cK rfl Tryz.func198 (fun H=>⟨_,ar1 (H.g 14 1),eRatF _ (by first|assumption|omega)⟩) ?_
 refine .lr rfl 4 E2_6 B7 ?_
 refine .fz rfl 1 12 E1_0 ?_
 refine .lp rfl 4 (rfC r.c) B2 ?_
 refine .cR rfl [] Tryz.func198 (fun H=>⟨_,ar1 (H.g 18 5),eRatA _⟩) ?_
 refine Go2.fn (i:=7) rfl (G0 rfl) (SP.fnL 7 [6] (fun u=>.agg #[.pointer none,x5,x6,(u 6).v]) (by intro u u' h;simp [h 6 (by simp)])) (fun u μ ρ H=>⟨_,by have e15:=H.g 15 2;have e16:=H.g 16 3;have e19:=H.r 19 6;obtain ⟨x6,h6⟩:=PtrP.isPtr (H.a 6 rfl);clear H;go_simp,SP.fnL_upd (by decide)⟩) ?_
 refine .al rfl (#[.pointer none,.pointer none,.pointer none,.pointer none]) ?_
 refine Go2.storeOwn (i:=9) (m:=8) rfl rfl (.head _) (SP.cells 8 [6] (fun u=>#[.pointer none,x5,x6,(u 6).v]) 180 (by intro u u' h;simp [h 6 (by simp)])) (fun u μ ρ b H h0 hB hb=>?_) ?_
 · have e6:=H.r 6 8;have e20:=H.e 20 7 (by kernel_rfl) (H.a 7 rfl);have o_x5:=VP1.ratn F_x5;have o_x6:=VP1.ratn F_x6;have o6:=VP1.ptr (H.a 6 rfl)
   rw [h0] at e6
   refine ⟨μ.setRow b #[.pointer none,x5,x6,(u 6).v],ex_store_row 180 _ _ rfl e6 e20 hb (by kernel_rfl) rfl (by simp [o_x5,o_x6,o6]<;>rfl),fun g=>⟨b,?_,hB,?_⟩,setRow_only _ _ _⟩
   · rw [upd_other _ _ (by decide)];exact h0
   · rw [setRow_at hb];try simp [upd]
 refine .dk (fun u=>rciV r::sq u1 0 3 (u2 6::u2 8::u 8::u2 3::sq u2 0 3 (u2 4::u2 5::sq u 0 8 (us 20)))) K8 bel fun u3 w3 D bel=>?_
 obtain ⟨x9,E3_6,F_x9⟩:∃ x_,(u3 6).v=x_∧(PtrP 0).p (Amb Z0 W) x_ w3:=⟨_,rfl,D.rr 6⟩
 obtain ⟨b10,E3_8,A10,B10⟩:=(D.a 9 rfl)
 replace A10:=le2 D.le A10
 have N3_10:=D.n1 8 (lt_of B3) E3_8
 replace B3:=D.k B3
 simp only [Value.cells,E3_6,E3_8] at B10
 replace F_x5:=D.gr (RatN ((gvm r.b).re)) F_x5
 replace F_x6:=D.gr (RatN ((gvm r.b).im)) F_x6
 clear D
 refine wp_seq_k fun _ K11=>?_
 refine gs 12 (Amb Z0 W) fun _ K12=>?_
 refine .mz rfl 5 E2_8 ?_
 refine .e rfl (V:=.bool false) (fun H=>x_not (H.g 21 0)) ?_
 refine .mv rfl 1 ?_
 refine .fz rfl 6 0 E3_8 ?_ (hg:=gq 2 rfl)
 refine .lc rfl 3 B10 ?_ (V:=.pointer none) (hg:=gq 2 rfl)
 refine .e rfl (V:=.bool true) (fun H=>x_nnE (H.g 25 4) (H.c _)) ?_ (hg:=gq 2 rfl)
 refine .e rfl (fun H=>x_pkF (H.g 23 2) (H.g 26 5)) ?_
 refine .mv rfl 6 ?_
 refine .sk rfl 7 ?_
 refine .sk rfl 7 ?_
 refine .sk rfl 7 ?_
 refine .e rfl (fun H=>x_pkT (H.g 28 7) (H.c _)) ?_
 refine .dk (fun u=>rciV r::sq u1 0 3 (u2 6::u2 8::u3 8::u2 3::sq u2 0 3 (u2 4::u2 5::sq u3 0 8 (sq u 0 12 (us 8))))) K12 bel fun u4 w4 D bel=>?_
 have E4_11:=D.q 11
 replace B3:=D.k B3
 replace B10:=D.k B10
 replace F_x5:=D.gr (RatN ((gvm r.b).re)) F_x5
 replace F_x6:=D.gr (RatN ((gvm r.b).im)) F_x6
 replace F_x9:=D.gr (PtrP 0) F_x9
 clear D
 refine wp_cond_true (by exact E4_11) ?_
 refine gs1 3 (Amb Z0 W) 1 B3 fun _ K13=>?_
 refine .e rfl (V:=.agg #[.pointer none,.pointer none,.pointer none,.pointer none]) (fun H=>by clear H;go_simp) ?_
 refine .s1 rfl B3 (fun H=>⟨H.z 2 E1_1,H.g 33 0⟩) ?_
 refine .mc rfl ?_
 refine .d1 (fun u=>rciV r::u1 0::u1 1::u 2::u2 6::u2 8::u3 8::u2 3::sq u2 0 3 (u2 4::u2 5::sq u3 0 8 (sq u4 0 12 (u 0::us 7)))) K13 bel A3 fun u5 w5 D bel=>?_
 have E5_2:=D.q 2
 replace B3:=D.ol 1
 clear D
 refine wp_ret ?_
 refine ret_ok rfl (by exact results_mix rfl (by exact E1_1) B3 Tryz.underlying180 rfl (by kernel_rfl) (by exact E5_2)) (RetV.mk ?_ bel)
 exact congrArg Ending.returned (rfl)
theorem ePlateC (r:RCi) (p0:gmay r.b=true) (p1:fmay r.a=true) (p2:fmay r.c=false) :
  Calls Tryz.prog 210 #[rciV r] W (RetV (.tuple #[.agg #[.pointer none,.pointer none,.pointer none,.pointer none],.bool false]) W):=by
 have bel:=b0 W
 go_enter Tryz.func210,Tryz.ntmps210
 refine gs 3 (Amb Z0 W) fun _ K1=>?_
 refine .bx rfl (fun H=>H.v 0 (rciV r)) ?_
 refine .al rfl (#[.pointer none,.pointer none,.pointer none,.pointer none]) ?_
 refine .mc rfl ?_
 refine .dk (fun u=>rciV r::sq u 0 3 (us 37)) K1 bel fun u1 w1 D bel=>?_
 obtain ⟨b2,E1_0,A2,B2⟩:=D.nw 0
 obtain ⟨b3,E1_1,A3,B3⟩:=D.nw 1
 have E1_2:=D.q 2
 have N2_3:=D.n2 0 1 E1_0 E1_1
 clear D
 refine gs 9 (Amb Z0 W) fun _ K4=>?_
 refine .fz rfl 1 4 E1_0 ?_
 refine .lp rfl 0 (rgC r.b) B2 ?_
 refine .cR rfl [] Tryz.func197 (fun H=>⟨_,ar1 (H.g 9 1),eOfR _⟩) ?_
 refine .mn rfl 2 [2] ?_
 refine Go2.fn (i:=4) rfl (G0 rfl) (.val 4 [2,3] (NumP (gvm r.b))) (fun u μ ρ H=>by have e7:=H.r 7 3;have h0:=(H.a 3 rfl);obtain ⟨x0,x1,h1,h2⟩:=h0;rw [h1] at e7;exact ⟨x0,by clear H;go_simp,SP.tupKeep (by decide) (by decide) h2.1⟩) ?_
 refine .e rfl (V:=.bool (gmay r.b)) (fun H=>by have e7:=H.r 7 3;have h0:=(H.a 3 rfl);obtain ⟨x0,x1,h1,h2,h3⟩:=h0;rw [h1] at e7;have h3:x1=.bool (gmay r.b):=h3;subst h3;clear H;go_simp) ?_
 refine .al rfl (#[.pointer none,.pointer none]) ?_
 refine Go2.storeOwn (i:=7) (m:=6) rfl rfl (.head _) (SP.cells 6 [4] (fun u=>#[((u 4).v.cells.getD 0 undef),((u 4).v.cells.getD 1 undef)]) 178 (by intro u u' h;simp [h 4 (by simp)])) (fun u μ ρ b H h0 hB hb=>?_) ?_
 · have e4:=H.r 4 6;have e11:=H.r 11 4
   rw [h0] at e4
   obtain ⟨x1,x2,h1,h2,h3⟩:=(H.a 4 rfl)
   have o1:=VP1.ratn h2
   have o2:=VP1.ratn h3
   rw [h1] at e11
   refine ⟨μ.setRow b #[x1,x2],ex_store_row 178 _ _ rfl e4 e11 hb (by kernel_rfl) rfl (by simp [o1,o2]),fun g=>⟨b,?_,hB,?_⟩,setRow_only _ _ _⟩
   · rw [upd_other _ _ (by decide)];exact h0
   · rw [setRow_at hb];try simp [upd,h1,Value.cells]
 refine .e rfl (V:=.bool true) (fun H=>by have e12:=H.g 12 5;have k_:=p0;clear H;go_simp<;>first|(simp_all;done)|omega|exact len_gt z0_) ?_
 refine .dk (fun u=>rciV r::sq u1 0 3 (u 6::u 8::U::u 3::sq u 0 3 (u 4::u 5::us 28))) K4 bel fun u2 w2 D bel=>?_
 obtain ⟨x5,x6,E2_4,F_x5,F_x6⟩:=(D.rr 4)
 obtain ⟨b7,E2_6,A7,B7⟩:=(D.a 7 rfl)
 replace A7:=le2 D.le A7
 have E2_8:=D.q 8
 have N3_7:=D.n1 6 (lt_of B3) E2_6
 replace B2:=D.k B2
 replace B3:=D.k B3
 simp only [Value.cells,E2_4,E2_6] at B7
 replace B7:w2.heap[b7]? = some (.cells #[x5,x6] 178 (0,0)):=B7
 clear D
 refine gd 10 (Amb Z0 W) fun _ K8=>?_
 refine .fz rfl 1 0 E1_0 ?_
 refine .lp rfl 0 (rfC r.a) B2 ?_
 refine .cR rfl [] Tryz.func198 (fun H=>⟨_,ar1 (H.g 14 1),eRatT _ (by first|assumption|omega)⟩) ?_
 refine .lr rfl 4 E2_6 B7 ?_
 refine .fz rfl 1 12 E1_0 ?_
 refine .lp rfl 4 (rfC r.c) B2 ?_
 refine .cK rfl Tryz.func198 (fun H=>⟨_,ar1 (H.g 18 5),eRatF _ (by first|assumption|omega)⟩) ?_
 refine Go2.fn (i:=7) rfl (G0 rfl) (SP.fnL 7 [2] (fun u=>.agg #[(u 2).v,x5,x6,.pointer none]) (by intro u u' h;simp [h 2 (by simp)])) (fun u μ ρ H=>⟨_,by have e15:=H.r 15 2;have e16:=H.g 16 3;have e19:=H.g 19 6;obtain ⟨x2,h2⟩:=RatP.isPtr (H.a 2 rfl);clear H;go_simp,SP.fnL_upd (by decide)⟩) ?_
 refine .al rfl (#[.pointer none,.pointer none,.pointer none,.pointer none]) ?_
 refine Go2.storeOwn (i:=9) (m:=8) rfl rfl (.head _) (SP.cells 8 [2] (fun u=>#[(u 2).v,x5,x6,.pointer none]) 180 (by intro u u' h;simp [h 2 (by simp)])) (fun u μ ρ b H h0 hB hb=>?_) ?_
 · have e6:=H.r 6 8;have e20:=H.e 20 7 (by kernel_rfl) (H.a 7 rfl);have o2:=VP1.rat (H.a 2 rfl);have o_x5:=VP1.ratn F_x5;have o_x6:=VP1.ratn F_x6
   rw [h0] at e6
   refine ⟨μ.setRow b #[(u 2).v,x5,x6,.pointer none],ex_store_row 180 _ _ rfl e6 e20 hb (by kernel_rfl) rfl (by simp [o2,o_x5,o_x6]<;>rfl),fun g=>⟨b,?_,hB,?_⟩,setRow_only _ _ _⟩
   · rw [upd_other _ _ (by decide)];exact h0
   · rw [setRow_at hb];try simp [upd]
 refine .dk (fun u=>rciV r::sq u1 0 3 (u2 6::u2 8::u 8::u2 3::sq u2 0 3 (u2 4::u2 5::sq u 0 8 (us 20)))) K8 bel fun u3 w3 D bel=>?_
 obtain ⟨b9,E3_2,L9,F9⟩:=RatP.elim (D.rr 2)
 obtain ⟨b10,E3_8,A10,B10⟩:=(D.a 9 rfl)
 replace A10:=le2 D.le A10
 have N3_10:=D.n1 8 (lt_of B3) E3_8
 replace B3:=D.k B3
 simp only [Value.cells,E3_2,E3_8] at B10
 replace F_x5:=D.gr (RatN ((gvm r.b).re)) F_x5
 replace F_x6:=D.gr (RatN ((gvm r.b).im)) F_x6
 clear D
 refine wp_seq_k fun _ K11=>?_
 refine gs 12 (Amb Z0 W) fun _ K12=>?_
 refine .mz rfl 5 E2_8 ?_
 refine .e rfl (V:=.bool false) (fun H=>x_not (H.g 21 0)) ?_
 refine .mv rfl 1 ?_
 refine .fz rfl 6 0 E3_8 ?_ (hg:=gq 2 rfl)
 refine .lc rfl 3 B10 ?_ (V:=pt b9) (hg:=gq 2 rfl)
 refine .e rfl (V:=.bool false) (fun H=>x_pnE (H.g 25 4) (H.c _)) ?_ (hg:=gq 2 rfl)
 refine .e rfl (fun H=>x_pkF (H.g 23 2) (H.g 26 5)) ?_
 refine .mv rfl 6 ?_
 refine .fz rfl 6 3 E3_8 ?_ (hg:=gq 7 rfl)
 refine .lc rfl 8 B10 ?_ (V:=.pointer none) (hg:=gq 7 rfl)
 refine .e rfl (V:=.bool true) (fun H=>x_nnE (H.g 30 9) (H.c _)) ?_ (hg:=gq 7 rfl)
 refine .e rfl (fun H=>x_pkF (H.g 28 7) (H.g 31 10)) ?_
 refine .dk (fun u=>rciV r::sq u1 0 3 (u2 6::u2 8::u3 8::u2 3::sq u2 0 3 (u2 4::u2 5::sq u3 0 8 (sq u 0 12 (us 8))))) K12 bel fun u4 w4 D bel=>?_
 have E4_11:=D.q 11
 replace B3:=D.k B3
 replace B10:=D.k B10
 replace F9:=D.o L9 F9
 replace F_x5:=D.gr (RatN ((gvm r.b).re)) F_x5
 replace F_x6:=D.gr (RatN ((gvm r.b).im)) F_x6
 clear D
 refine wp_cond_true (by exact E4_11) ?_
 refine gs1 3 (Amb Z0 W) 1 B3 fun _ K13=>?_
 refine .e rfl (V:=.agg #[.pointer none,.pointer none,.pointer none,.pointer none]) (fun H=>by clear H;go_simp) ?_
 refine .s1 rfl B3 (fun H=>⟨H.z 2 E1_1,H.g 33 0⟩) ?_
 refine .mc rfl ?_
 refine .d1 (fun u=>rciV r::u1 0::u1 1::u 2::u2 6::u2 8::u3 8::u2 3::sq u2 0 3 (u2 4::u2 5::sq u3 0 8 (sq u4 0 12 (u 0::us 7)))) K13 bel A3 fun u5 w5 D bel=>?_
 have E5_2:=D.q 2
 replace B3:=D.ol 1
 clear D
 refine wp_ret ?_
 refine ret_ok rfl (by exact results_mix rfl (by exact E1_1) B3 Tryz.underlying180 rfl (by kernel_rfl) (by exact E5_2)) (RetV.mk ?_ bel)
 exact congrArg Ending.returned (rfl)
theorem ePlateY (c:Ci) (p0:cifits (rci c)=true) :
  Calls Tryz.prog 210 #[ciV c] W (Ret (VP.tup (RingP c) (VP.is (.bool (decide (c.dot c=-1))))) S W):=by
 have f:=cifits_ht p0
 have h1:=dot_ht c c
 have z2:ht (Rat.divInt (-1:Int) (1:Int))=2:=by decide
 have bel:=b0 W
 go_enter Tryz.func210,Tryz.ntmps210
 refine gs 3 (Amb S W) fun _ K1=>?_
 refine .bx rfl (fun H=>H.v 0 (ciV c)) ?_
 refine .al rfl (#[.pointer none,.pointer none,.pointer none,.pointer none]) ?_
 refine .mc rfl ?_
 refine .dk (fun u=>ciV c::sq u 0 3 (us 37)) K1 bel fun u1 w1 D bel=>?_
 obtain ⟨b2,E1_0,A2,B2⟩:=D.nw 0
 obtain ⟨b3,E1_1,A3,B3⟩:=D.nw 1
 have E1_2:=D.q 2
 have N2_3:=D.n2 0 1 E1_0 E1_1
 clear D
 refine gs 9 (Amb S W) fun _ K4=>?_
 refine .fz rfl 1 4 E1_0 ?_
 refine .lp rfl 0 (gC c.b) B2 ?_
 refine .cR rfl [] Tryz.func197 (fun H=>⟨_,ar1 (H.g 9 1),eOf _ (by first|omega|exact (and_3 p0).1|exact (and_3 p0).2.1|exact (and_3 p0).2.2|exact pos_flat p1)⟩) ?_
 refine .mn rfl 2 [2] ?_
 refine Go2.fn (i:=4) rfl (G0 rfl) (.val 4 [2,3] (NumP c.b)) (fun u μ ρ H=>by have e7:=H.r 7 3;have h0:=(H.a 3 rfl);obtain ⟨x0,x1,h1,h2⟩:=h0;rw [h1] at e7;exact ⟨x0,by clear H;go_simp,SP.tupKeep (by decide) (by decide) h2.1⟩) ?_
 refine .e rfl (V:=.bool true) (fun H=>by have e7:=H.r 7 3;have h0:=(H.a 3 rfl);obtain ⟨x0,x1,h1,h2,h3⟩:=h0;rw [h1] at e7;have h3:x1=.bool true:=h3;subst h3;clear H;go_simp) ?_
 refine .al rfl (#[.pointer none,.pointer none]) ?_
 refine Go2.storeOwn (i:=7) (m:=6) rfl rfl (.head _) (SP.cells 6 [4] (fun u=>#[((u 4).v.cells.getD 0 undef),((u 4).v.cells.getD 1 undef)]) 178 (by intro u u' h;simp [h 4 (by simp)])) (fun u μ ρ b H h0 hB hb=>?_) ?_
 · have e4:=H.r 4 6;have e11:=H.r 11 4
   rw [h0] at e4
   obtain ⟨x1,x2,h1,h2,h3⟩:=(H.a 4 rfl)
   have o1:=VP1.ratn h2
   have o2:=VP1.ratn h3
   rw [h1] at e11
   refine ⟨μ.setRow b #[x1,x2],ex_store_row 178 _ _ rfl e4 e11 hb (by kernel_rfl) rfl (by simp [o1,o2]),fun g=>⟨b,?_,hB,?_⟩,setRow_only _ _ _⟩
   · rw [upd_other _ _ (by decide)];exact h0
   · rw [setRow_at hb];try simp [upd,h1,Value.cells]
 refine .mv rfl 5 ?_
 refine .dk (fun u=>ciV c::sq u1 0 3 (u 6::u 8::U::u 3::sq u 0 3 (u 4::u 5::us 28))) K4 bel fun u2 w2 D bel=>?_
 obtain ⟨x5,x6,E2_4,F_x5,F_x6⟩:=(D.rr 4)
 obtain ⟨b7,E2_6,A7,B7⟩:=(D.a 7 rfl)
 replace A7:=le2 D.le A7
 have E2_8:=D.q 8
 have N3_7:=D.n1 6 (lt_of B3) E2_6
 replace B2:=D.k B2
 replace B3:=D.k B3
 simp only [Value.cells,E2_4,E2_6] at B7
 replace B7:w2.heap[b7]? = some (.cells #[x5,x6] 178 (0,0)):=B7
 clear D
 refine gd 10 (Amb S W) fun _ K8=>?_
 refine .fz rfl 1 0 E1_0 ?_
 refine .lp rfl 0 (fC c.a) B2 ?_
 refine .cR rfl [] Tryz.func198 (fun H=>⟨_,ar1 (H.g 14 1),eRatOk _ (by first|omega|exact (and_3 p0).1|exact (and_3 p0).2.1|exact (and_3 p0).2.2|exact pos_flat p1)⟩) ?_
 refine .lr rfl 4 E2_6 B7 ?_
 refine .fz rfl 1 12 E1_0 ?_
 refine .lp rfl 4 (fC c.c) B2 ?_
 refine .cR rfl [] Tryz.func198 (fun H=>⟨_,ar1 (H.g 18 5),eRatOk _ (by first|omega|exact (and_3 p0).1|exact (and_3 p0).2.1|exact (and_3 p0).2.2|exact pos_flat p1)⟩) ?_
 refine Go2.fn (i:=7) rfl (G0 rfl) (SP.fnL 7 [2,6] (fun u=>.agg #[(u 2).v,x5,x6,(u 6).v]) (by intro u u' h;simp [h 2 (by simp),h 6 (by simp)])) (fun u μ ρ H=>⟨_,by have e15:=H.r 15 2;have e16:=H.g 16 3;have e19:=H.r 19 6;obtain ⟨x2,h2⟩:=RatP.isPtr (H.a 2 rfl);obtain ⟨x6,h6⟩:=RatP.isPtr (H.a 6 rfl);clear H;go_simp,SP.fnL_upd (by decide)⟩) ?_
 refine .al rfl (#[.pointer none,.pointer none,.pointer none,.pointer none]) ?_
 refine Go2.storeOwn (i:=9) (m:=8) rfl rfl (.head _) (SP.cells 8 [2,6] (fun u=>#[(u 2).v,x5,x6,(u 6).v]) 180 (by intro u u' h;simp [h 2 (by simp),h 6 (by simp)])) (fun u μ ρ b H h0 hB hb=>?_) ?_
 · have e6:=H.r 6 8;have e20:=H.e 20 7 (by kernel_rfl) (H.a 7 rfl);have o2:=VP1.rat (H.a 2 rfl);have o_x5:=VP1.ratn F_x5;have o_x6:=VP1.ratn F_x6;have o6:=VP1.rat (H.a 6 rfl)
   rw [h0] at e6
   refine ⟨μ.setRow b #[(u 2).v,x5,x6,(u 6).v],ex_store_row 180 _ _ rfl e6 e20 hb (by kernel_rfl) rfl (by simp [o2,o_x5,o_x6,o6]<;>rfl),fun g=>⟨b,?_,hB,?_⟩,setRow_only _ _ _⟩
   · rw [upd_other _ _ (by decide)];exact h0
   · rw [setRow_at hb];try simp [upd]
 refine .dk (fun u=>ciV c::sq u1 0 3 (u2 6::u2 8::u 8::u2 3::sq u2 0 3 (u2 4::u2 5::sq u 0 8 (us 20)))) K8 bel fun u3 w3 D bel=>?_
 obtain ⟨b9,E3_2,L9,F9⟩:=RatP.elim (D.rr 2)
 obtain ⟨b10,E3_6,L10,F10⟩:=RatP.elim (D.rr 6)
 obtain ⟨b11,E3_8,A11,B11⟩:=(D.a 9 rfl)
 replace A11:=le2 D.le A11
 have N3_11:=D.n1 8 (lt_of B3) E3_8
 replace B3:=D.k B3
 simp only [Value.cells,E3_2,E3_6,E3_8] at B11
 replace F_x5:=D.gr (RatN c.b.re) F_x5
 replace F_x6:=D.gr (RatN c.b.im) F_x6
 clear D
 refine wp_seq_k fun _ K12=>?_
 refine gs 12 (Amb S W) fun _ K13=>?_
 refine .mz rfl 5 E2_8 ?_
 refine .e rfl (V:=.bool false) (fun H=>x_not (H.g 21 0)) ?_
 refine .mv rfl 1 ?_
 refine .fz rfl 6 0 E3_8 ?_ (hg:=gq 2 rfl)
 refine .lc rfl 3 B11 ?_ (V:=pt b9) (hg:=gq 2 rfl)
 refine .e rfl (V:=.bool false) (fun H=>x_pnE (H.g 25 4) (H.c _)) ?_ (hg:=gq 2 rfl)
 refine .e rfl (fun H=>x_pkF (H.g 23 2) (H.g 26 5)) ?_
 refine .mv rfl 6 ?_
 refine .fz rfl 6 3 E3_8 ?_ (hg:=gq 7 rfl)
 refine .lc rfl 8 B11 ?_ (V:=pt b10) (hg:=gq 7 rfl)
 refine .e rfl (V:=.bool false) (fun H=>x_pnE (H.g 30 9) (H.c _)) ?_ (hg:=gq 7 rfl)
 refine .e rfl (fun H=>x_pkF (H.g 28 7) (H.g 31 10)) ?_
 refine .dk (fun u=>ciV c::sq u1 0 3 (u2 6::u2 8::u3 8::u2 3::sq u2 0 3 (u2 4::u2 5::sq u3 0 8 (sq u 0 12 (us 8))))) K13 bel fun u4 w4 D bel=>?_
 have E4_11:=D.q 11
 replace B3:=D.k B3
 replace B11:=D.k B11
 replace F9:=D.o L9 F9
 replace F10:=D.o L10 F10
 replace F_x5:=D.gr (RatN c.b.re) F_x5
 replace F_x6:=D.gr (RatN c.b.im) F_x6
 clear D
 refine wp_cond_false (by exact E4_11) ?_
 refine wp_skip ?_
 refine K12 _ _ ?_
 refine gd1 9 (Amb S W) 7 B3 fun _ K14=>?_
 refine .e rfl (fun H=>x_ldr (H.z 6 E3_8) (H.b1 B11 N3_11)) ?_
 refine .e rfl (fun H=>x_ldr (H.z 6 E3_8) (H.b1 B11 N3_11)) ?_
 refine .e rfl (fun H=>x_ldr (H.z 6 E3_8) (H.b1 B11 N3_11)) ?_
 refine .cR rfl [] Tryz.func214 (fun H=>⟨_,ar2 (H.g 35 1) (H.g 36 2),dsBy c c (RingP.mk (H.was _ [] (VP.at F9 L9)) (H.was _ [] F_x5) (H.was _ [] F_x6) (H.was _ [] (VP.at F10 L10))) (RingP.mk (H.was _ [] (VP.at F9 L9)) (H.was _ [] F_x5) (H.was _ [] F_x6) (H.was _ [] (VP.at F10 L10))) (by first|omega|exact (and_3 p0).1|exact (and_3 p0).2.1|exact (and_3 p0).2.2|exact pos_flat p1)⟩) ?_
 refine .cR rfl [] Tryz.func132 (fun H=>⟨_,ar2 (H.c (.int .i64 (-1))) (H.c (.int .i64 1)),qNewRat _ _ (by first|omega|exact (and_3 p0).1|exact (and_3 p0).2.1|exact (and_3 p0).2.2|exact pos_flat p1) (by first|omega|exact (and_3 p0).1|exact (and_3 p0).2.1|exact (and_3 p0).2.2|exact pos_flat p1) (by first|omega|exact (and_3 p0).1|exact (and_3 p0).2.1|exact (and_3 p0).2.2|exact pos_flat p1) (by first|omega|exact (and_3 p0).1|exact (and_3 p0).2.1|exact (and_3 p0).2.2|exact pos_flat p1) (by first|omega|exact (and_3 p0).1|exact (and_3 p0).2.1|exact (and_3 p0).2.2|exact pos_flat p1)⟩) ?_
 refine .cK rfl Tryz.func175 (fun H=>⟨_,ar2 (H.r 37 3) (H.r 38 4),qCmp _ _ (SV.any (H.a 3 rfl)) (SV.any (H.a 4 rfl)) (by first|omega|exact (and_3 p0).1|exact (and_3 p0).2.1|exact (and_3 p0).2.2|exact pos_flat p1)⟩) ?_
 refine .e rfl (V:=.bool ((icmp ((c.dot c).num*((Rat.divInt (-1:Int) (1:Int)).den:Int)) ((Rat.divInt (-1:Int) (1:Int)).num*((c.dot c).den:Int))) == 0)) (fun H=>x_cmp (H.g 39 5) (H.c _)) ?_
 refine Go2.storeOld (i:=7) 0 b3 rfl rfl rfl ⟨_,_,_,B3,rfl⟩ (SP.old 0 b3 [] (fun u=>#[pt b9,x5,x6,pt b10]) 180 (by intro u u' h;simp []) (lt_of B3) (by intro y k hy;match y,hy with|0,hy=>rfl)) (fun u μ ρ H=>?_) ?_
 · have e2:=H.z 2 E1_1;have e34:=H.g 34 0;have o_x5:=VP1.ratn F_x5;have o_x6:=VP1.ratn F_x6;have hb:=H.blkOld B3 0 7 rfl (.inl rfl)
   refine ⟨μ.setRow b3 #[pt b9,x5,x6,pt b10],ex_store_row 180 _ _ rfl e2 e34 hb (by kernel_rfl) rfl (by simp [o_x5,o_x6,ptr1]<;>rfl),fun g=>?_,setRow_only _ _ _⟩
   show (World.setRow _ _ _).heap[b3]? = _
   rw [setRow_at hb];try simp [upd]
 refine .mv rfl 6 ?_
 refine .d1 (fun u=>ciV c::u1 0::u1 1::u 8::u2 6::u2 8::u3 8::u2 3::sq u2 0 3 (u2 4::u2 5::sq u3 0 8 (sq u4 0 12 (U::sq u 0 7 [])))) K14 bel A3 fun u5 w5 D bel=>?_
 have E5_8:=D.q 8
 replace B3:=D.ol 7
 replace F9:=D.o L9 F9
 replace F10:=D.o L10 F10
 replace F_x5:=D.gr (RatN c.b.re) F_x5
 replace F_x6:=D.gr (RatN c.b.im) F_x6
 clear D
 refine wp_ret ?_
 refine ret_ok rfl (by exact results_mix rfl (by exact E1_1) B3 Tryz.underlying180 rfl (by kernel_rfl) (by exact E5_8)) ⟨_,rfl,?_,bel⟩
 exact ⟨_,_,rfl,(RingP.mk (VP.at F9 L9) F_x5 F_x6 (VP.at F10 L10)),(plate_eq c)⟩
theorem eSpotI :
  Calls Tryz.prog 156 #[rpnV (RPn.mk true rz)] W (Ret (VP.tup (PlaceP ⟨true,⟨0,0⟩⟩) (VP.is (.bool true))) S W):=by
 have bel:=b0 W
 go_enter Tryz.func156,Tryz.ntmps156
 refine gs 3 (Amb S W) fun _ K1=>?_
 refine .bx rfl (fun H=>H.v 0 (rpnV (RPn.mk true rz))) ?_
 refine .al rfl (#[.bool false,.pointer none,.pointer none]) ?_
 refine .mc rfl ?_
 refine .dk (fun u=>rpnV (RPn.mk true rz)::sq u 0 3 (us 17)) K1 bel fun u1 w1 D bel=>?_
 obtain ⟨b2,E1_0,A2,B2⟩:=D.nw 0
 obtain ⟨b3,E1_1,A3,B3⟩:=D.nw 1
 have E1_2:=D.q 2
 have N2_3:=D.n2 0 1 E1_0 E1_1
 clear D
 refine wp_seq_k fun _ K4=>?_
 refine gs 2 (Amb S W) fun _ K5=>?_
 refine .fz rfl 1 0 E1_0 ?_
 refine .lc rfl 0 B2 ?_ (V:=.bool true)
 refine .dk (fun u=>rpnV (RPn.mk true rz)::sq u1 0 3 (U::U::u 0::u 1::us 13)) K5 bel fun u2 w2 D bel=>?_
 have E2_1:=D.q 1
 replace B2:=D.k B2
 replace B3:=D.k B3
 clear D
 refine wp_cond_true (by exact E2_1) ?_
 refine gd1 6 (Amb S W) 4 B3 fun _ K6=>?_
 refine .e rfl (V:=.agg #[.bool true,.pointer none,.pointer none]) (fun H=>by have k0:=H.c (.bool true);clear H;go_simp) ?_
 refine .e rfl (fun H=>x_ldr (H.z 1 E1_0) (H.b1 B2 (Ne.symm N2_3))) ?_
 refine .e rfl (V:=rpnV (RPn.mk true rz)) (fun H=>by have k0:=H.c (.bool true);clear H;go_simp) ?_
 refine .e rfl (V:=.bool true) (fun H=>ex_eql_pn (r:=RPn.mk true rz) (q:=RPn.mk true rz) _ _ rfl (H.g 9 1) (H.g 10 2) (rfl.trans (decide_eq_true rfl))) ?_
 refine .s1 rfl B3 (fun H=>⟨H.z 2 E1_1,H.g 8 0⟩) ?_
 refine .mv rfl 3 ?_
 refine .d1 (fun u=>rpnV (RPn.mk true rz)::u1 0::u1 1::u 5::U::U::u2 0::u2 1::sq u 0 4 (us 9)) K6 bel A3 fun u3 w3 D bel=>?_
 have E3_5:=D.q 5
 replace B3:=D.ol 4
 clear D
 refine wp_ret ?_
 refine ret_ok rfl (by exact results_mix rfl (by exact E1_1) B3 Tryz.underlying229 rfl (by kernel_rfl) (by exact E3_5)) ⟨_,rfl,?_,bel⟩
 exact ⟨_,_,rfl,(PlaceP.mk (.inl ⟨rfl,rfl⟩) (.inl ⟨rfl,rfl⟩)),(rfl)⟩
end Go.Proofs.YtcpjdjnaipbieaaGreat
namespace Go.Proofs.YtcpjdjnaipbieaaGreat
open Go.RowKit Rgn
theorem tupJ {φ:VP} {S:Nat→Prop} {w:World} {v:Value} (h:φ.p S v w):(VP.tup φ (VP.is (.bool false))).p S (.tuple #[v,.bool false]) w:=⟨_,_,rfl,h,rfl⟩
theorem ringJ0 {S:Nat→Prop} {w:World}:(RingJ 0).p S (.agg #[.pointer none,.pointer none,.pointer none,.pointer none]) w:=⟨_,_,_,_,rfl,⟨_,rfl⟩,⟨_,rfl⟩,⟨_,rfl⟩,⟨_,rfl⟩⟩
theorem toJ {P:Program} {f:FuncId} {args:Array Value} {W:World} {φ ψ:VP} {b:Bool} {S:Nat→Prop} (h:Calls P f args W (Ret (VP.tup φ (VP.is (.bool b))) S W)) (hb:b=false) (hj:∀ v w (S:Nat→Prop),φ.p S v w→ψ.p S v w):Calls P f args W (Ret (VP.tup ψ (VP.is (.bool false))) S W):=by
 subst hb
 exact h.mono fun _ _ ⟨v,h1,⟨a,b,h2,h3,h4⟩,h5⟩=>⟨v,h1,⟨a,b,h2,hj _ _ _ h3,h4⟩,h5⟩
theorem ePlateO {S:Nat→Prop} {W:World} (c:Ci) (p0:dsOk (rci c)=true):Calls Tryz.prog 210 #[ciV c] W (Ret (VP.tup (RingP c) (VP.is (.bool true))) S W):=by
 obtain ⟨h1,h2⟩:=dsOk_c p0
 have h:=ePlateY (S:=S) (W:=W) c h1
 rw [decide_eq_true h2] at h
 exact h
theorem ePlateN {S:Nat→Prop} {W:World} (r:RCi) (p0:dsOk r=false):Calls Tryz.prog 210 #[rciV r] W (Ret (VP.tup (RingJ 0) (VP.is (.bool false))) S W):=by
 cases h1:gmay r.b with
 | false=>exact retOf (ePlateA r h1) fun _=>tupJ ringJ0
 | true =>
  cases h2:fmay r.a with
  | false=>exact retOf (ePlateB r h1 h2) fun _=>tupJ ringJ0
  | true =>
   cases h3:fmay r.c with
   | false=>exact retOf (ePlateC r h1 h2 h3) fun _=>tupJ ringJ0
   | true =>
    obtain ⟨c,rfl,hf⟩:=ci_of h2 h1 h3
    refine toJ (ePlateY c hf) (decide_eq_false fun e=>?_) fun _ _ _ h=>RingP.j h
    exact dsOk_no p0 ⟨c,rfl,hf,e⟩
end Go.Proofs.YtcpjdjnaipbieaaGreat
namespace Go.Proofs.YtcpjdjnaipbieaaGreat
open Go.RowKit Rgn
theorem fmay_rf (q:Rat):fmay (rf q)=fits (rf q):=by unfold fmay;rw [fformed_rf,Bool.and_true]
theorem cmay_a {c:Ci} (h:cifits (rci c)=true):fmay (rf c.a)=true:=by rw [fmay_rf];exact (and_3 h).1
theorem cmay_b {c:Ci} (h:cifits (rci c)=true):gmay (rg c.b)=true:=by rw [gmay_rg];exact (and_3 h).2.1
theorem cmay_c {c:Ci} (h:cifits (rci c)=true):fmay (rf c.c)=true:=by rw [fmay_rf];exact (and_3 h).2.2
theorem over_eq (z:Cx) (x:Rat):Cx.mk (z.re/x) (z.im/x)=z.scale x⁻¹:=Cx.ext' (Rat.div_def _ _) (Rat.div_def _ _)
theorem nrmd_0 {c:Ci} (h:(c.a.num.sign == 0)=false):Ci.mk (c.a/c.a) (c.b.scale c.a⁻¹) (c.c/c.a)=c.nrm:=by rw [Rat.div_def,Rat.div_def];exact nrm_0 h
theorem nrmd_1 {c:Ci} (h:(c.a.num.sign == 0)=true) (h' : (c.b.re.num.sign == 0)=false):Ci.mk (c.a/c.b.re) (c.b.scale c.b.re⁻¹) (c.c/c.b.re)=c.nrm:=by rw [Rat.div_def,Rat.div_def];exact nrm_1 h h'
theorem nrmd_2 {c:Ci} (h:(c.a.num.sign == 0)=true) (h' : (c.b.re.num.sign == 0)=true):Ci.mk (c.a/c.b.im) (c.b.scale c.b.im⁻¹) (c.c/c.b.im)=c.nrm:=by rw [Rat.div_def,Rat.div_def];exact nrm_2 h h'
end Go.Proofs.YtcpjdjnaipbieaaGreat
namespace Go.Proofs.YtcpjdjnaipbieaaGreat
open Go.RowKit Rgn Eng
set_option maxHeartbeats 8000000
set_option maxRecDepth 100000
variable {S:Nat→Prop} {W:World}
theorem c11Fits (r:RCi):Calls Tryz.prog 88 #[rciV r] W (RetV (.bool (cifits r)) W):=by
 refine Run.goP (S:=Z0) (Pack.nil.k (rciV r) (rciC r).toList (.s (.agg (ks 0 16)))) Tryz.func88 rfl ?_
 refine Run.cV [.bool (fits r.a)] kb (fun _ _ _ H=>fFits r.a) ?_
 refine (Bool.eq_false_or_eq_true (fits r.a)).elim (fun c1=>?_) (fun c1=>?_)
 · refine Run.kn c1 ?_
   refine Run.cV [.bool (gfits r.b)] kb (fun _ _ _ H=>cFits r.b) ?_
   refine (Bool.eq_false_or_eq_true (gfits r.b)).elim (fun c2=>?_) (fun c2=>?_)
   · refine Run.kn c2 ?_
     refine Run.cV [.bool (fits r.c)] kb (fun _ _ _ H=>fFits r.c) ?_
     exact Run.rV (V' := .bool (fits r.c)) ((by unfold cifits;rw [c1,c2];rfl))
   · refine Run.kn c2 ?_
     exact Run.rV (V' := .bool false) ((by unfold cifits;rw [c1,c2];rfl))
 · refine Run.kn c1 ?_
   exact Run.rV (V' := .bool false) ((by unfold cifits;rw [c1];rfl))
theorem c11Over (z:Cx) (x:Rat) (p0:ht z.re+ht z.im+ht x≤1073741824) (p1:x≠0):Calls Tryz.prog 240 #[gV z,fV x] W (RetV (gV (z.scale x⁻¹)) W):=by
 refine Run.goP (S:=Z0) ((Pack.nil.k (gV z) (gC z).toList (.s (.agg (ks 0 8)))).k (fV x) (fC x).toList (.s (.agg (ks 0 4)))) Tryz.func240 rfl ?_
 refine Run.dr ?_
 refine RunD.cV (fC (z.re/x)).toList (.s (.agg (ks 0 4))) (fun _ _ _ H=>fOver z.re x (by first|omega|exact p1) p1) ?_
 refine RunD.cV (fC (z.im/x)).toList (.s (.agg (ks 0 4))) (fun _ _ _ H=>fOver z.im x (by first|omega|exact p1) p1) ?_
 refine RunD.en ?_
 exact Run.rV (congrArg gV (over_eq z x))
theorem c11Norm (a:Rat) (b:Cx) (c:Rat) (p0:ht a+ht b.re+ht b.im+ht c≤268435456) (p1:(Ci.mk a b c).flat=false):Calls Tryz.prog 154 #[fV a,gV b,fV c] W (RetV (ciV ((Ci.mk a b c).nrm)) W):=by
 refine Run.goP (S:=Z0) (((Pack.nil.k (fV a) (fC a).toList (.s (.agg (ks 0 4)))).k (gV b) (gC b).toList (.s (.agg (ks 0 8)))).k (fV c) (fC c).toList (.s (.agg (ks 0 4)))) Tryz.func154 rfl ?_
 refine Run.cV [.int .i64 a.num.sign] kb (fun _ _ _ H=>fSign a) ?_
 refine Run.ic a.num.sign 0 (a.num.sign == 0) ?_
 refine (Bool.eq_false_or_eq_true (a.num.sign == 0)).elim (fun c1=>?_) (fun c1=>?_)
 · refine Run.kn c1 ?_
   refine Run.cV [.int .i64 b.re.num.sign] kb (fun _ _ _ H=>fSign b.re) ?_
   refine Run.ic b.re.num.sign 0 (b.re.num.sign == 0) ?_
   refine (Bool.eq_false_or_eq_true (b.re.num.sign == 0)).elim (fun c2=>?_) (fun c2=>?_)
   · refine Run.kn c2 ?_
     refine Run.dr ?_
     refine RunD.cV (fC (a/b.im)).toList (.s (.agg (ks 0 4))) (fun _ _ _ H=>fOver a b.im (by first|omega|exact nz_2 (c:=Ci.mk a b c) p1 c1 c2|exact sgn_no c2|exact sgn_no c1) (by first|omega|exact nz_2 (c:=Ci.mk a b c) p1 c1 c2|exact sgn_no c2|exact sgn_no c1)) ?_
     refine RunD.cV (gC (b.scale b.im⁻¹)).toList (.s (.agg (ks 0 8))) (fun _ _ _ H=>c11Over b b.im (by first|omega|exact nz_2 (c:=Ci.mk a b c) p1 c1 c2|exact sgn_no c2|exact sgn_no c1) (by first|omega|exact nz_2 (c:=Ci.mk a b c) p1 c1 c2|exact sgn_no c2|exact sgn_no c1)) ?_
     refine RunD.cV (fC (c/b.im)).toList (.s (.agg (ks 0 4))) (fun _ _ _ H=>fOver c b.im (by first|omega|exact nz_2 (c:=Ci.mk a b c) p1 c1 c2|exact sgn_no c2|exact sgn_no c1) (by first|omega|exact nz_2 (c:=Ci.mk a b c) p1 c1 c2|exact sgn_no c2|exact sgn_no c1)) ?_
     refine RunD.en ?_
     exact Run.rV (congrArg ciV (nrmd_2 (c:=Ci.mk a b c) c1 c2))
   · refine Run.kn c2 ?_
     refine Run.dr ?_
     refine RunD.cV (fC (a/b.re)).toList (.s (.agg (ks 0 4))) (fun _ _ _ H=>fOver a b.re (by first|omega|exact nz_2 (c:=Ci.mk a b c) p1 c1 c2|exact sgn_no c2|exact sgn_no c1) (by first|omega|exact nz_2 (c:=Ci.mk a b c) p1 c1 c2|exact sgn_no c2|exact sgn_no c1)) ?_
     refine RunD.cV (gC (b.scale b.re⁻¹)).toList (.s (.agg (ks 0 8))) (fun _ _ _ H=>c11Over b b.re (by first|omega|exact nz_2 (c:=Ci.mk a b c) p1 c1 c2|exact sgn_no c2|exact sgn_no c1) (by first|omega|exact nz_2 (c:=Ci.mk a b c) p1 c1 c2|exact sgn_no c2|exact sgn_no c1)) ?_
     refine RunD.cV (fC (c/b.re)).toList (.s (.agg (ks 0 4))) (fun _ _ _ H=>fOver c b.re (by first|omega|exact nz_2 (c:=Ci.mk a b c) p1 c1 c2|exact sgn_no c2|exact sgn_no c1) (by first|omega|exact nz_2 (c:=Ci.mk a b c) p1 c1 c2|exact sgn_no c2|exact sgn_no c1)) ?_
     refine RunD.en ?_
     exact Run.rV (congrArg ciV (nrmd_1 (c:=Ci.mk a b c) c1 c2))
 · refine Run.kn c1 ?_
   refine Run.cV [.int .i64 a.num.sign] kb (fun _ _ _ H=>fSign a) ?_
   refine Run.ic a.num.sign 0 (a.num.sign == 0) ?_
   refine Run.kn c1 ?_
   refine Run.dr ?_
   refine RunD.cV (fC (a/a)).toList (.s (.agg (ks 0 4))) (fun _ _ _ H=>fOver a a (by first|omega|exact nz_2 (c:=Ci.mk a b c) p1 c1 _|exact sgn_no _|exact sgn_no c1) (by first|omega|exact nz_2 (c:=Ci.mk a b c) p1 c1 _|exact sgn_no _|exact sgn_no c1)) ?_
   refine RunD.cV (gC (b.scale a⁻¹)).toList (.s (.agg (ks 0 8))) (fun _ _ _ H=>c11Over b a (by first|omega|exact nz_2 (c:=Ci.mk a b c) p1 c1 _|exact sgn_no _|exact sgn_no c1) (by first|omega|exact nz_2 (c:=Ci.mk a b c) p1 c1 _|exact sgn_no _|exact sgn_no c1)) ?_
   refine RunD.cV (fC (c/a)).toList (.s (.agg (ks 0 4))) (fun _ _ _ H=>fOver c a (by first|omega|exact nz_2 (c:=Ci.mk a b c) p1 c1 _|exact sgn_no _|exact sgn_no c1) (by first|omega|exact nz_2 (c:=Ci.mk a b c) p1 c1 _|exact sgn_no _|exact sgn_no c1)) ?_
   refine RunD.en ?_
   exact Run.rV (congrArg ciV (nrmd_0 (c:=Ci.mk a b c) c1))
end Go.Proofs.YtcpjdjnaipbieaaGreat
namespace Go.Proofs.YtcpjdjnaipbieaaGreat
open Go.RowKit Rgn
@[reducible] def Cx.inv (k:Cx):Cx:=k.conj.scale k.norm⁻¹
theorem inv_one {k:Cx} (h:k.zero=false):k.inv.mul k=⟨1,0⟩:=by
 have hn:k.norm≠0:=zero_norm h
 have e:(k.re*k.re+k.im*k.im)*k.norm⁻¹=1:=Rat.mul_inv_cancel _ hn
 exact Cx.ext' (by show k.re*k.norm⁻¹*k.re - -k.im*k.norm⁻¹*k.im=1;grind) (by show k.re*k.norm⁻¹*k.im+-k.im*k.norm⁻¹*k.re=0;grind)
theorem inv_zero {k:Cx} (h:k.zero=false):k.inv.zero=false:=by
 cases e:k.inv.zero with
 | false=>rfl
 | true =>
  have h1:=inv_one h
  rw [zero_iff.1 e] at h1
  have h2:(0:Rat)*k.re-0*k.im=1:=congrArg Cx.re h1
  grind
@[reducible] def Mb.by (m:Mb) (j:Cx):Mb:=⟨m.a.mul j,m.b.mul j,m.c.mul j,m.d.mul j,m.t⟩
def Ci.at (c:Ci) (v w:Cx):Rat:=c.a*v.norm+c.c*w.norm+(((c.b.mul v).mul w.conj).re+((c.b.mul v).mul w.conj).re)
def Ci.mid (c:Ci) (n:Mb):Cx:=((((Cx.mk c.a 0).mul (n.a.mul n.b.conj)).add ((c.b.mul n.a).mul n.d.conj)).add ((c.b.mul n.b).conj.mul n.c)).add ((Cx.mk c.c 0).mul (n.c.mul n.d.conj))
def Ci.im (c:Ci) (n:Mb) (t:Bool):Ci:=⟨c.at n.a n.c,cjC t (c.mid n),c.at n.b n.d⟩
def HB (z:Cx) (n:Nat):Prop:=ht z.re≤n∧ht z.im≤n
section
variable {x y z:Cx} {p q:Rat} {a b n:Nat}
theorem HB.two (h1:ht z.re≤a) (h2:ht z.im≤b) (n:Nat) (h:(Nat.ble a n&&Nat.ble b n)=true:=by decide):HB z n:=by
 simp only [Bool.and_eq_true,Nat.ble_eq] at h
 exact ⟨Nat.le_trans h1 h.1,Nat.le_trans h2 h.2⟩
theorem HB.mul (h1:HB x a) (h2:HB y b) (n:Nat) (h:2*a+2*b≤n:=by decide):HB (x.mul y) n:=by
 have:=hc_mul x y
 unfold HB at *;omega
theorem HB.add (h1:HB x a) (h2:HB y b) (n:Nat) (h:a+b≤n:=by decide):HB (x.add y) n:=by
 have:=hc_add x y
 unfold HB at *;omega
theorem HB.sub (h1:HB x a) (h2:HB y b) (n:Nat) (h:a+b≤n:=by decide):HB (x.sub y) n:=by
 have:=hc_sub x y
 unfold HB at *;omega
theorem HB.div (h1:HB x a) (h2:HB y b) (n:Nat) (h:6*a+6*b≤n:=by decide):HB (x.div y) n:=by
 have:=hc_div x y
 unfold HB at *;omega
theorem HB.neg (h1:HB x a):HB x.neg a:=by have:=hc_neg x;unfold HB at *;omega
theorem HB.conj (h1:HB x a):HB x.conj a:=by have:=hc_conj x;unfold HB at *;omega
theorem HB.scale (h1:HB x a) (h2:ht p≤b) (n:Nat) (h:a+b≤n:=by decide):HB (x.scale p) n:=by
 have:=hc_scale x p
 unfold HB at *;omega
theorem HB.norm (h1:HB x a) (n:Nat) (h:4*a≤n:=by decide):ht x.norm≤n:=by
 have:=hc_norm x
 unfold HB at *;omega
theorem hb_add (h1:ht p≤a) (h2:ht q≤b) (n:Nat) (h:a+b≤n:=by decide):ht (p+q)≤n:=Nat.le_trans (ht_add p q) (Nat.le_trans (Nat.add_le_add h1 h2) h)
theorem hb_sub (h1:ht p≤a) (h2:ht q≤b) (n:Nat) (h:a+b≤n:=by decide):ht (p-q)≤n:=Nat.le_trans (ht_sub p q) (Nat.le_trans (Nat.add_le_add h1 h2) h)
theorem hb_mul (h1:ht p≤a) (h2:ht q≤b) (n:Nat) (h:a+b≤n:=by decide):ht (p*q)≤n:=Nat.le_trans (ht_mul p q) (Nat.le_trans (Nat.add_le_add h1 h2) h)
theorem hb_neg (h1:ht p≤a):ht (-p)≤a:=by rw [ht_neg];exact h1
theorem hb_ci {c:Ci} (h:ht c.a+ht c.b.re+ht c.b.im+ht c.c≤n):ht c.a≤n∧HB c.b n∧ht c.c≤n:=by unfold HB;omega
end
end Go.Proofs.YtcpjdjnaipbieaaGreat
namespace Go.Proofs.YtcpjdjnaipbieaaGreat
open Go.RowKit Rgn Eng
def idxF:List Bool→Int→Int
 | [],_=>-1
 | b::l,k=>if b then idxF l (k+1) else k
theorem idxF_all (l:List Bool):decide ((0:Int)≤idxF l 0) = !(l.all id):=by
 have key:∀ (l:List Bool) (k:Int),0≤k→decide ((0:Int)≤idxF l k) = !(l.all id):=by
  intro l
  induction l with
  | nil=>intro k _;rfl
  | cons b l ih =>
   intro k hk
   cases b with
   | true=>exact ih (k+1) (by omega)
   | false=>show decide ((0:Int)≤k)=true;exact decide_eq_true hk
 exact key l 0 (Int.le_refl _)
def mn3 (xa xb xc ya yb yc za zb zc:Rat):Rat:=(0+(yb*zc-yc*zb)*xa)+(yc*za-ya*zc)*xb+(ya*zb-yb*za)*xc
theorem mn3_hb {xa xb xc ya yb yc za zb zc:Rat} (h1:ht xa≤40000) (h2:ht xb≤40000) (h3:ht xc≤40000) (h4:ht ya≤40000) (h5:ht yb≤40000) (h6:ht yc≤40000) (h7:ht za≤40000) (h8:ht zb≤40000) (h9:ht zc≤40000):ht (mn3 xa xb xc ya yb yc za zb zc)≤600002 :=
 hb_add (hb_add (hb_add (Nat.le_of_eq ht_zero) (hb_mul (hb_sub (hb_mul h5 h9 80000) (hb_mul h6 h8 80000) 160000) h1 200000) 200002) (hb_mul (hb_sub (hb_mul h6 h7 80000) (hb_mul h4 h9 80000) 160000) h2 200000) 400002) (hb_mul (hb_sub (hb_mul h4 h8 80000) (hb_mul h5 h7 80000) 160000) h3 200000) 600002
def Ci.acr (x y z:Ci):Ci :=
 ⟨-(mn3 x.a x.b.re x.b.im y.a y.b.re y.b.im z.a z.b.re z.b.im),((⟨mn3 x.a x.c x.b.im y.a y.c y.b.im z.a z.c z.b.im,0⟩:Cx).add ((⟨-(mn3 x.a x.c x.b.re y.a y.c y.b.re z.a z.c z.b.re),0⟩:Cx).mul (Cx.ofInt 0 1))).scale (Rat.divInt (-1) 2),mn3 x.c x.b.re x.b.im y.c y.b.re y.b.im z.c z.b.re z.b.im⟩
theorem acr_ht {x y z:Ci} (h1:ht x.a+ht x.b.re+ht x.b.im+ht x.c≤40000) (h2:ht y.a+ht y.b.re+ht y.b.im+ht y.c≤40000) (h3:ht z.a+ht z.b.re+ht z.b.im+ht z.c≤40000):ht (Ci.acr x y z).a+ht (Ci.acr x y z).b.re+ht (Ci.acr x y z).b.im+ht (Ci.acr x y z).c≤4800036:=by
 obtain ⟨a1,b1,c1⟩:=hb_ci h1
 obtain ⟨a2,b2,c2⟩:=hb_ci h2
 obtain ⟨a3,b3,c3⟩:=hb_ci h3
 have k0:=mn3_hb a1 c1 b1.2 a2 c2 b2.2 a3 c3 b3.2
 have k1:=hb_neg (mn3_hb a1 c1 b1.1 a2 c2 b2.1 a3 c3 b3.1)
 have k2:=HB.mul (HB.two (z:=Cx.mk (-(mn3 x.a x.c x.b.re y.a y.c y.b.re z.a z.c z.b.re)) 0) k1 (Nat.le_of_eq ht_zero) 600002) (⟨by decide,by decide⟩:HB (Cx.ofInt 0 1) 3) 1200010
 have k3:=HB.add (HB.two (z:=Cx.mk (mn3 x.a x.c x.b.im y.a y.c y.b.im z.a z.c z.b.im) 0) k0 (Nat.le_of_eq ht_zero) 600002) k2 1800012
 have k4:=hb_neg (mn3_hb a1 b1.1 b1.2 a2 b2.1 b2.2 a3 b3.1 b3.2)
 have k5:=HB.scale k3 (by decide:ht (Rat.divInt (-1) 2)≤4) 1800016
 have k6:=mn3_hb c1 b1.1 b1.2 c2 b2.1 b2.2 c3 b3.1 b3.2
 exact Nat.le_trans (Nat.add_le_add (Nat.add_le_add (Nat.add_le_add k4 k5.1) k5.2) k6) (by decide)
theorem plus_ht (x y:Ci):ht (x.plus y).a+ht (x.plus y).b.re+ht (x.plus y).b.im+ht (x.plus y).c≤(ht x.a+ht x.b.re+ht x.b.im+ht x.c)+(ht y.a+ht y.b.re+ht y.b.im+ht y.c):=by
 have h1:ht (x.plus y).a≤ht x.a+ht y.a:=ht_add x.a y.a
 have h2:ht (x.plus y).b.re≤ht x.b.re+ht y.b.re:=ht_add x.b.re y.b.re
 have h3:ht (x.plus y).b.im≤ht x.b.im+ht y.b.im:=ht_add x.b.im y.b.im
 have h4:ht (x.plus y).c≤ht x.c+ht y.c:=ht_add x.c y.c
 omega
theorem out_hs (x:Ci):ht x.out.a+ht x.out.b.re+ht x.out.b.im+ht x.out.c=ht x.a+ht x.b.re+ht x.b.im+ht x.c:=by
 obtain ⟨h1,h2,h3,h4⟩:=out_ht x;omega
def fstN:List Int→Bool
 | []=>false
 | n::l=>if (n != 0)=true then decide (n<0) else fstN l
def Ci.ahd (a b:Ci):Bool:=fstN [-(icmp (a.a.num*(b.a.den:Int)) (b.a.num*(a.a.den:Int))),(a.b.sub b.b).re.num.sign,(a.b.sub b.b).im.num.sign,icmp (a.c.num*(b.c.den:Int)) (b.c.num*(a.c.den:Int))]
def Ci.f4s (a b c:Ci):Ci:=(a.plus b).plus c
def Ci.f4x (a b c:Ci):Ci:=(Ci.f4s a b c).plus (Ci.acr a b c)
def Ci.f4y (a b c:Ci):Ci:=(Ci.f4s a b c).plus (Ci.acr a b c).out
def Ci.f4p (a b c:Ci):Ci:=if (Ci.f4y a b c).ahd (Ci.f4x a b c)=true then Ci.f4y a b c else Ci.f4x a b c
def Ci.f4q (a b c:Ci):Ci:=if (Ci.f4y a b c).ahd (Ci.f4x a b c)=true then Ci.f4x a b c else Ci.f4y a b c
def Ci.f4b (a b c:Ci):Bool:=(cierr (Ci.f4p a b c) != 0)||(cierr (Ci.f4q a b c) != 0)
def Ci.f4P (a b c:Ci):RCi:=if Ci.f4b a b c=true then rzCi else cicut (Ci.f4p a b c)
def Ci.f4Q (a b c:Ci):RCi:=if Ci.f4b a b c=true then rzCi else cicut (Ci.f4q a b c)
def Ci.f4E (a b c:Ci):Int:=if Ci.f4b a b c=true then 4 else 0
def Ci.all3 (a b c:Ci):Bool:=[b.touch a].all id&&[c.touch a,c.touch b].all id
theorem f4_ht {x y z:Ci} (h1:ht x.a+ht x.b.re+ht x.b.im+ht x.c≤40000) (h2:ht y.a+ht y.b.re+ht y.b.im+ht y.c≤40000) (h3:ht z.a+ht z.b.re+ht z.b.im+ht z.c≤40000) :
  ht (Ci.f4s x y z).a+ht (Ci.f4s x y z).b.re+ht (Ci.f4s x y z).b.im+ht (Ci.f4s x y z).c≤120000∧ht (Ci.f4x x y z).a+ht (Ci.f4x x y z).b.re+ht (Ci.f4x x y z).b.im+ht (Ci.f4x x y z).c≤5000000∧ht (Ci.f4y x y z).a+ht (Ci.f4y x y z).b.re+ht (Ci.f4y x y z).b.im+ht (Ci.f4y x y z).c≤5000000:=by
 have g:=acr_ht h1 h2 h3
 have k1:=plus_ht x y
 have k2:=plus_ht (x.plus y) z
 have k3:=plus_ht (Ci.f4s x y z) (Ci.acr x y z)
 have k4:=plus_ht (Ci.f4s x y z) (Ci.acr x y z).out
 have k5:=out_hs (Ci.acr x y z)
 unfold Ci.f4x Ci.f4y
 refine ⟨?_,?_,?_⟩<;>(unfold Ci.f4s at *;omega)
section
variable {a b c:Ci}
theorem fo_e (e:Ci.f4b a b c=true):Value.tuple #[rciV rzCi,rciV rzCi,.int .i64 4]=.tuple #[rciV (Ci.f4P a b c),rciV (Ci.f4Q a b c),.int .i64 (Ci.f4E a b c)]:=by
 unfold Ci.f4P Ci.f4Q Ci.f4E;rw [if_pos e,if_pos e,if_pos e]
theorem fo_1 (h:(Ci.f4y a b c).ahd (Ci.f4x a b c)=true) (e:(cierr (Ci.f4y a b c) != 0)=true):Value.tuple #[rciV rzCi,rciV rzCi,.int .i64 4]=.tuple #[rciV (Ci.f4P a b c),rciV (Ci.f4Q a b c),.int .i64 (Ci.f4E a b c)] :=
 fo_e (by unfold Ci.f4b Ci.f4p;rw [if_pos h,e];rfl)
theorem fo_2 (h:(Ci.f4y a b c).ahd (Ci.f4x a b c)=true) (e:(cierr (Ci.f4x a b c) != 0)=true):Value.tuple #[rciV rzCi,rciV rzCi,.int .i64 4]=.tuple #[rciV (Ci.f4P a b c),rciV (Ci.f4Q a b c),.int .i64 (Ci.f4E a b c)] :=
 fo_e (by unfold Ci.f4b Ci.f4q;rw [if_pos h,e,Bool.or_true])
theorem fo_3 (h:(Ci.f4y a b c).ahd (Ci.f4x a b c)=true) (e:(cierr (Ci.f4y a b c) != 0)=false) (e' : (cierr (Ci.f4x a b c) != 0)=false):Value.tuple #[rciV (cicut (Ci.f4y a b c)),rciV (cicut (Ci.f4x a b c)),.int .i64 0]=.tuple #[rciV (Ci.f4P a b c),rciV (Ci.f4Q a b c),.int .i64 (Ci.f4E a b c)]:=by
 have g:¬ Ci.f4b a b c=true:=by unfold Ci.f4b Ci.f4p Ci.f4q;rw [if_pos h,if_pos h,e,e'];decide
 unfold Ci.f4P Ci.f4Q Ci.f4E;rw [if_neg g,if_neg g,if_neg g];unfold Ci.f4p Ci.f4q;rw [if_pos h,if_pos h]
theorem fo_4 (h:(Ci.f4y a b c).ahd (Ci.f4x a b c)=false) (e:(cierr (Ci.f4x a b c) != 0)=true):Value.tuple #[rciV rzCi,rciV rzCi,.int .i64 4]=.tuple #[rciV (Ci.f4P a b c),rciV (Ci.f4Q a b c),.int .i64 (Ci.f4E a b c)] :=
 fo_e (by unfold Ci.f4b Ci.f4p;rw [if_neg (by rw [h];decide),e];rfl)
theorem fo_5 (h:(Ci.f4y a b c).ahd (Ci.f4x a b c)=false) (e:(cierr (Ci.f4y a b c) != 0)=true):Value.tuple #[rciV rzCi,rciV rzCi,.int .i64 4]=.tuple #[rciV (Ci.f4P a b c),rciV (Ci.f4Q a b c),.int .i64 (Ci.f4E a b c)] :=
 fo_e (by unfold Ci.f4b Ci.f4q;rw [if_neg (by rw [h];decide),e,Bool.or_true])
theorem fo_6 (h:(Ci.f4y a b c).ahd (Ci.f4x a b c)=false) (e:(cierr (Ci.f4x a b c) != 0)=false) (e' : (cierr (Ci.f4y a b c) != 0)=false):Value.tuple #[rciV (cicut (Ci.f4x a b c)),rciV (cicut (Ci.f4y a b c)),.int .i64 0]=.tuple #[rciV (Ci.f4P a b c),rciV (Ci.f4Q a b c),.int .i64 (Ci.f4E a b c)]:=by
 have h' : ¬ (Ci.f4y a b c).ahd (Ci.f4x a b c)=true:=by rw [h];decide
 have g:¬ Ci.f4b a b c=true:=by unfold Ci.f4b Ci.f4p Ci.f4q;rw [if_neg h', if_neg h', e,e'];decide
 unfold Ci.f4P Ci.f4Q Ci.f4E;rw [if_neg g,if_neg g,if_neg g];unfold Ci.f4p Ci.f4q;rw [if_neg h', if_neg h']
end
def Ci.swp (a b c d x:Ci):Ci:=(((((a.plus b).plus c).plus d).plus x.out).plus ((((a.plus b).plus c).plus d).plus x.out)).plus x.out
def Ci.all4 (a b c d:Ci):Bool:=[b.touch a].all id&&[c.touch a,c.touch b].all id&&[d.touch a,d.touch b,d.touch c].all id
theorem swp_ht (a b c d x:Ci):ht (Ci.swp a b c d x).a+ht (Ci.swp a b c d x).b.re+ht (Ci.swp a b c d x).b.im+ht (Ci.swp a b c d x).c≤2*((ht a.a+ht a.b.re+ht a.b.im+ht a.c)+(ht b.a+ht b.b.re+ht b.b.im+ht b.c)+(ht c.a+ht c.b.re+ht c.b.im+ht c.c)+(ht d.a+ht d.b.re+ht d.b.im+ht d.c))+3*(ht x.a+ht x.b.re+ht x.b.im+ht x.c):=by
 have h1:=plus_ht a b
 have h2:=plus_ht (a.plus b) c
 have h3:=plus_ht ((a.plus b).plus c) d
 have h4:=out_hs x
 have h5:=plus_ht (((a.plus b).plus c).plus d) x.out
 have h6:=plus_ht ((((a.plus b).plus c).plus d).plus x.out) ((((a.plus b).plus c).plus d).plus x.out)
 have h7:=plus_ht (((((a.plus b).plus c).plus d).plus x.out).plus ((((a.plus b).plus c).plus d).plus x.out)) x.out
 unfold Ci.swp;omega
theorem ci1_eq (b:Bool):decide ((0:Int)≤idxF [!b] 0)=b:=by cases b<;>rfl
theorem nT {b:Bool} (h:(!b)=false):b=true:=by simpa using h
theorem nF {b:Bool} (h:(!b)=true):b=false:=by simpa using h
theorem wneg (a b:Int):IntKind.wrap .i64 (-(icmp a b))=-(icmp a b):=by
 unfold icmp;split
 ·decide
 ·split<;>decide
end Go.Proofs.YtcpjdjnaipbieaaGreat
namespace Go.Proofs.YtcpjdjnaipbieaaGreat
open Go.RowKit Rgn Eng
set_option maxHeartbeats 8000000
set_option maxRecDepth 100000
variable {S:Nat→Prop} {W:World}
theorem tc1 {v0 w1_0 w1_1 w1_2 w1_3:Value} {b1:Nat} (y:Ci) (x:Ci) (t0:(RingP y).p S v0 W) (B1:W.heap[b1]? = some (.cells #[w1_0,w1_1,w1_2,w1_3] 180 (0,0))) (t1:(RingP x).p S (.agg #[w1_0,w1_1,w1_2,w1_3]) W) (p0:ht x.a+ht x.b.re+ht x.b.im+ht x.c+(ht y.a+ht y.b.re+ht y.b.im+ht y.c)≤67108000):Calls Tryz.prog 225 #[v0,.pointer (some ⟨b1,0,none⟩)] W (RetV (.bool (!(x.touch y))) W):=by
 refine Run.goP (S:=S) ((Pack.nil.s spRing t0).bv B1 none 4 (ringCells t1)) Tryz.func225 rfl ?_
 refine Run.cV [.bool (x.touch y)] kb (fun _ _ _ H=>dsTouch x y (RingP.mk (H.f 4) (H.f 5) (H.f 6) (H.f 7)) (RingP.mk (H.f 0) (H.f 1) (H.f 2) (H.f 3)) p0) ?_
 refine (Bool.eq_false_or_eq_true (x.touch y)).elim (fun c1=>?_) (fun c1=>?_)
 · refine Run.kn c1 ?_
   exact Run.rV (V' := .bool false) ((congrArg Value.bool (by simp [c1])))
 · refine Run.kn c1 ?_
   exact Run.rV (V' := .bool true) ((congrArg Value.bool (by simp [c1])))
theorem ix0 {w1_0 w1_1 w1_2 w1_3:Value} {b0 b1:Nat} (n0:Nat) (x:Ci) (B0:∃ r:List Value,W.heap[b0]? = some (.cells ⟨[]++r⟩ 180 (0,0))) (B1:W.heap[b1]? = some (.cells #[w1_0,w1_1,w1_2,w1_3] 180 (0,0))) (t1:(RingP x).p S (.agg #[w1_0,w1_1,w1_2,w1_3]) W):Calls Tryz.prog 271 #[.slice (some ⟨b0,0,none⟩) 0 n0,.func (.func 225) #[] #[.pointer (some ⟨b1,0,none⟩)]] W (RetV (.int .i64 (idxF [] 0)) W):=by
 refine Run.goP (S:=S) ((Pack.nil.bm B0 0 n0 0 ((show AllF (Amb S W) W [] [] from trivial))).bf B1 225 4 (ringCells t1)) Tryz.func271 rfl ?_
 exact Run.rV rfl
theorem ix1 {w0_0 w0_1 w0_2 w0_3 w1_0 w1_1 w1_2 w1_3:Value} {b0 b1:Nat} (n0:Nat) (y0:Ci) (x:Ci) (B0:∃ r:List Value,W.heap[b0]? = some (.cells ⟨[w0_0,w0_1,w0_2,w0_3]++r⟩ 180 (0,0))) (t0_0:(RingP y0).p S (.agg #[w0_0,w0_1,w0_2,w0_3]) W) (B1:W.heap[b1]? = some (.cells #[w1_0,w1_1,w1_2,w1_3] 180 (0,0))) (t1:(RingP x).p S (.agg #[w1_0,w1_1,w1_2,w1_3]) W) (p0:ht x.a+ht x.b.re+ht x.b.im+ht x.c+(ht y0.a+ht y0.b.re+ht y0.b.im+ht y0.c)≤67108000):Calls Tryz.prog 271 #[.slice (some ⟨b0,0,none⟩) 1 n0,.func (.func 225) #[] #[.pointer (some ⟨b1,0,none⟩)]] W (RetV (.int .i64 (idxF [x.touch y0] 0)) W):=by
 refine Run.goP (S:=S) ((Pack.nil.bm B0 1 n0 4 (ringCells t0_0)).bf B1 225 4 (ringCells t1)) Tryz.func271 rfl ?_
 refine Run.cV [.bool (!(x.touch y0))] kb (fun _ _ _ H=>tc1 y0 x (RingP.mk (H.f 0) (H.f 1) (H.f 2) (H.f 3)) (H.b 1) (RingP.mk (H.f 4) (H.f 5) (H.f 6) (H.f 7)) p0) ?_
 refine (Bool.eq_false_or_eq_true (!(x.touch y0))).elim (fun c1=>?_) (fun c1=>?_)
 · refine Run.kn c1 ?_
   exact Run.rV (V' := .int .i64 (0)) ((congrArg (Value.int .i64) (by simp [idxF,nF c1])))
 · refine Run.kn c1 ?_
   exact Run.rV (V' := .int .i64 (-1)) ((congrArg (Value.int .i64) (by simp [idxF,nT c1])))
theorem ix2 {w0_0 w0_1 w0_2 w0_3 w0_4 w0_5 w0_6 w0_7 w1_0 w1_1 w1_2 w1_3:Value} {b0 b1:Nat} (n0:Nat) (y0:Ci) (y1:Ci) (x:Ci) (B0:∃ r:List Value,W.heap[b0]? = some (.cells ⟨[w0_0,w0_1,w0_2,w0_3,w0_4,w0_5,w0_6,w0_7]++r⟩ 180 (0,0))) (t0_0:(RingP y0).p S (.agg #[w0_0,w0_1,w0_2,w0_3]) W) (t0_1:(RingP y1).p S (.agg #[w0_4,w0_5,w0_6,w0_7]) W) (B1:W.heap[b1]? = some (.cells #[w1_0,w1_1,w1_2,w1_3] 180 (0,0))) (t1:(RingP x).p S (.agg #[w1_0,w1_1,w1_2,w1_3]) W) (p0:ht x.a+ht x.b.re+ht x.b.im+ht x.c+(ht y0.a+ht y0.b.re+ht y0.b.im+ht y0.c)≤67108000) (p1:ht x.a+ht x.b.re+ht x.b.im+ht x.c+(ht y1.a+ht y1.b.re+ht y1.b.im+ht y1.c)≤67108000):Calls Tryz.prog 271 #[.slice (some ⟨b0,0,none⟩) 2 n0,.func (.func 225) #[] #[.pointer (some ⟨b1,0,none⟩)]] W (RetV (.int .i64 (idxF [x.touch y0,x.touch y1] 0)) W):=by
 refine Run.goP (S:=S) ((Pack.nil.bm B0 2 n0 8 (AllF.app (ringCells t0_0) (ringCells t0_1))).bf B1 225 4 (ringCells t1)) Tryz.func271 rfl ?_
 refine Run.cV [.bool (!(x.touch y0))] kb (fun _ _ _ H=>tc1 y0 x (RingP.mk (H.f 0) (H.f 1) (H.f 2) (H.f 3)) (H.b 1) (RingP.mk (H.f 8) (H.f 9) (H.f 10) (H.f 11)) p0) ?_
 refine (Bool.eq_false_or_eq_true (!(x.touch y0))).elim (fun c1=>?_) (fun c1=>?_)
 · refine Run.kn c1 ?_
   exact Run.rV (V' := .int .i64 (0)) ((congrArg (Value.int .i64) (by simp [idxF,nF c1])))
 · refine Run.kn c1 ?_
   refine Run.cV [.bool (!(x.touch y1))] kb (fun _ _ _ H=>tc1 y1 x (RingP.mk (H.f 4) (H.f 5) (H.f 6) (H.f 7)) (H.b 1) (RingP.mk (H.f 8) (H.f 9) (H.f 10) (H.f 11)) p1) ?_
   refine (Bool.eq_false_or_eq_true (!(x.touch y1))).elim (fun c2=>?_) (fun c2=>?_)
   · refine Run.kn c2 ?_
     exact Run.rV (V' := .int .i64 (1)) ((congrArg (Value.int .i64) (by simp [idxF,nT c1,nF c2])))
   · refine Run.kn c2 ?_
     exact Run.rV (V' := .int .i64 (-1)) ((congrArg (Value.int .i64) (by simp [idxF,nT c1,nT c2])))
theorem ix3 {w0_0 w0_1 w0_2 w0_3 w0_4 w0_5 w0_6 w0_7 w0_8 w0_9 w0_10 w0_11 w1_0 w1_1 w1_2 w1_3:Value} {b0 b1:Nat} (n0:Nat) (y0:Ci) (y1:Ci) (y2:Ci) (x:Ci) (B0:∃ r:List Value,W.heap[b0]? = some (.cells ⟨[w0_0,w0_1,w0_2,w0_3,w0_4,w0_5,w0_6,w0_7,w0_8,w0_9,w0_10,w0_11]++r⟩ 180 (0,0))) (t0_0:(RingP y0).p S (.agg #[w0_0,w0_1,w0_2,w0_3]) W) (t0_1:(RingP y1).p S (.agg #[w0_4,w0_5,w0_6,w0_7]) W) (t0_2:(RingP y2).p S (.agg #[w0_8,w0_9,w0_10,w0_11]) W) (B1:W.heap[b1]? = some (.cells #[w1_0,w1_1,w1_2,w1_3] 180 (0,0))) (t1:(RingP x).p S (.agg #[w1_0,w1_1,w1_2,w1_3]) W) (p0:ht x.a+ht x.b.re+ht x.b.im+ht x.c+(ht y0.a+ht y0.b.re+ht y0.b.im+ht y0.c)≤67108000) (p1:ht x.a+ht x.b.re+ht x.b.im+ht x.c+(ht y1.a+ht y1.b.re+ht y1.b.im+ht y1.c)≤67108000) (p2:ht x.a+ht x.b.re+ht x.b.im+ht x.c+(ht y2.a+ht y2.b.re+ht y2.b.im+ht y2.c)≤67108000):Calls Tryz.prog 271 #[.slice (some ⟨b0,0,none⟩) 3 n0,.func (.func 225) #[] #[.pointer (some ⟨b1,0,none⟩)]] W (RetV (.int .i64 (idxF [x.touch y0,x.touch y1,x.touch y2] 0)) W):=by
 refine Run.goP (S:=S) ((Pack.nil.bm B0 3 n0 12 (AllF.app (ringCells t0_0) (AllF.app (ringCells t0_1) (ringCells t0_2)))).bf B1 225 4 (ringCells t1)) Tryz.func271 rfl ?_
 refine Run.cV [.bool (!(x.touch y0))] kb (fun _ _ _ H=>tc1 y0 x (RingP.mk (H.f 0) (H.f 1) (H.f 2) (H.f 3)) (H.b 1) (RingP.mk (H.f 12) (H.f 13) (H.f 14) (H.f 15)) p0) ?_
 refine (Bool.eq_false_or_eq_true (!(x.touch y0))).elim (fun c1=>?_) (fun c1=>?_)
 · refine Run.kn c1 ?_
   exact Run.rV (V' := .int .i64 (0)) ((congrArg (Value.int .i64) (by simp [idxF,nF c1])))
 · refine Run.kn c1 ?_
   refine Run.cV [.bool (!(x.touch y1))] kb (fun _ _ _ H=>tc1 y1 x (RingP.mk (H.f 4) (H.f 5) (H.f 6) (H.f 7)) (H.b 1) (RingP.mk (H.f 12) (H.f 13) (H.f 14) (H.f 15)) p1) ?_
   refine (Bool.eq_false_or_eq_true (!(x.touch y1))).elim (fun c2=>?_) (fun c2=>?_)
   · refine Run.kn c2 ?_
     exact Run.rV (V' := .int .i64 (1)) ((congrArg (Value.int .i64) (by simp [idxF,nT c1,nF c2])))
   · refine Run.kn c2 ?_
     refine Run.cV [.bool (!(x.touch y2))] kb (fun _ _ _ H=>tc1 y2 x (RingP.mk (H.f 8) (H.f 9) (H.f 10) (H.f 11)) (H.b 1) (RingP.mk (H.f 12) (H.f 13) (H.f 14) (H.f 15)) p2) ?_
     refine (Bool.eq_false_or_eq_true (!(x.touch y2))).elim (fun c3=>?_) (fun c3=>?_)
     · refine Run.kn c3 ?_
       exact Run.rV (V' := .int .i64 (2)) ((congrArg (Value.int .i64) (by simp [idxF,nT c1,nT c2,nF c3])))
     · refine Run.kn c3 ?_
       exact Run.rV (V' := .int .i64 (-1)) ((congrArg (Value.int .i64) (by simp [idxF,nT c1,nT c2,nT c3])))
theorem cf0 {w1_0 w1_1 w1_2 w1_3:Value} {b0 b1:Nat} (n0:Nat) (x:Ci) (B0:∃ r:List Value,W.heap[b0]? = some (.cells ⟨[]++r⟩ 180 (0,0))) (B1:W.heap[b1]? = some (.cells #[w1_0,w1_1,w1_2,w1_3] 180 (0,0))) (t1:(RingP x).p S (.agg #[w1_0,w1_1,w1_2,w1_3]) W):Calls Tryz.prog 224 #[.slice (some ⟨b0,0,none⟩) 0 n0,.func (.func 225) #[] #[.pointer (some ⟨b1,0,none⟩)]] W (RetV (.bool (!([].all id))) W):=by
 refine Run.goP (S:=S) ((Pack.nil.bm B0 0 n0 0 ((show AllF (Amb S W) W [] [] from trivial))).bf B1 225 4 (ringCells t1)) Tryz.func224 rfl ?_
 refine Run.cV [.int .i64 (idxF [] 0)] kb (fun _ _ _ H=>ix0 n0 x (H.bq 0 0) (H.b 1) (RingP.mk (H.f 0) (H.f 1) (H.f 2) (H.f 3))) ?_
 refine Run.ic (idxF [] 0) 0 (decide (0≤(idxF [] 0))) ?_
 exact Run.rV ((congrArg Value.bool (idxF_all _)))
theorem cf1 {w0_0 w0_1 w0_2 w0_3 w1_0 w1_1 w1_2 w1_3:Value} {b0 b1:Nat} (n0:Nat) (y0:Ci) (x:Ci) (B0:∃ r:List Value,W.heap[b0]? = some (.cells ⟨[w0_0,w0_1,w0_2,w0_3]++r⟩ 180 (0,0))) (t0_0:(RingP y0).p S (.agg #[w0_0,w0_1,w0_2,w0_3]) W) (B1:W.heap[b1]? = some (.cells #[w1_0,w1_1,w1_2,w1_3] 180 (0,0))) (t1:(RingP x).p S (.agg #[w1_0,w1_1,w1_2,w1_3]) W) (p0:ht x.a+ht x.b.re+ht x.b.im+ht x.c+(ht y0.a+ht y0.b.re+ht y0.b.im+ht y0.c)≤67108000):Calls Tryz.prog 224 #[.slice (some ⟨b0,0,none⟩) 1 n0,.func (.func 225) #[] #[.pointer (some ⟨b1,0,none⟩)]] W (RetV (.bool (!([x.touch y0].all id))) W):=by
 refine Run.goP (S:=S) ((Pack.nil.bm B0 1 n0 4 (ringCells t0_0)).bf B1 225 4 (ringCells t1)) Tryz.func224 rfl ?_
 refine Run.cV [.int .i64 (idxF [x.touch y0] 0)] kb (fun _ _ _ H=>ix1 n0 y0 x (H.bq 0 4) (RingP.mk (H.f 0) (H.f 1) (H.f 2) (H.f 3)) (H.b 1) (RingP.mk (H.f 4) (H.f 5) (H.f 6) (H.f 7)) p0) ?_
 refine Run.ic (idxF [x.touch y0] 0) 0 (decide (0≤(idxF [x.touch y0] 0))) ?_
 exact Run.rV ((congrArg Value.bool (idxF_all _)))
theorem cf2 {w0_0 w0_1 w0_2 w0_3 w0_4 w0_5 w0_6 w0_7 w1_0 w1_1 w1_2 w1_3:Value} {b0 b1:Nat} (n0:Nat) (y0:Ci) (y1:Ci) (x:Ci) (B0:∃ r:List Value,W.heap[b0]? = some (.cells ⟨[w0_0,w0_1,w0_2,w0_3,w0_4,w0_5,w0_6,w0_7]++r⟩ 180 (0,0))) (t0_0:(RingP y0).p S (.agg #[w0_0,w0_1,w0_2,w0_3]) W) (t0_1:(RingP y1).p S (.agg #[w0_4,w0_5,w0_6,w0_7]) W) (B1:W.heap[b1]? = some (.cells #[w1_0,w1_1,w1_2,w1_3] 180 (0,0))) (t1:(RingP x).p S (.agg #[w1_0,w1_1,w1_2,w1_3]) W) (p0:ht x.a+ht x.b.re+ht x.b.im+ht x.c+(ht y0.a+ht y0.b.re+ht y0.b.im+ht y0.c)≤67108000) (p1:ht x.a+ht x.b.re+ht x.b.im+ht x.c+(ht y1.a+ht y1.b.re+ht y1.b.im+ht y1.c)≤67108000):Calls Tryz.prog 224 #[.slice (some ⟨b0,0,none⟩) 2 n0,.func (.func 225) #[] #[.pointer (some ⟨b1,0,none⟩)]] W (RetV (.bool (!([x.touch y0,x.touch y1].all id))) W):=by
 refine Run.goP (S:=S) ((Pack.nil.bm B0 2 n0 8 (AllF.app (ringCells t0_0) (ringCells t0_1))).bf B1 225 4 (ringCells t1)) Tryz.func224 rfl ?_
 refine Run.cV [.int .i64 (idxF [x.touch y0,x.touch y1] 0)] kb (fun _ _ _ H=>ix2 n0 y0 y1 x (H.bq 0 8) (RingP.mk (H.f 0) (H.f 1) (H.f 2) (H.f 3)) (RingP.mk (H.f 4) (H.f 5) (H.f 6) (H.f 7)) (H.b 1) (RingP.mk (H.f 8) (H.f 9) (H.f 10) (H.f 11)) p0 p1) ?_
 refine Run.ic (idxF [x.touch y0,x.touch y1] 0) 0 (decide (0≤(idxF [x.touch y0,x.touch y1] 0))) ?_
 exact Run.rV ((congrArg Value.bool (idxF_all _)))
theorem cf3 {w0_0 w0_1 w0_2 w0_3 w0_4 w0_5 w0_6 w0_7 w0_8 w0_9 w0_10 w0_11 w1_0 w1_1 w1_2 w1_3:Value} {b0 b1:Nat} (n0:Nat) (y0:Ci) (y1:Ci) (y2:Ci) (x:Ci) (B0:∃ r:List Value,W.heap[b0]? = some (.cells ⟨[w0_0,w0_1,w0_2,w0_3,w0_4,w0_5,w0_6,w0_7,w0_8,w0_9,w0_10,w0_11]++r⟩ 180 (0,0))) (t0_0:(RingP y0).p S (.agg #[w0_0,w0_1,w0_2,w0_3]) W) (t0_1:(RingP y1).p S (.agg #[w0_4,w0_5,w0_6,w0_7]) W) (t0_2:(RingP y2).p S (.agg #[w0_8,w0_9,w0_10,w0_11]) W) (B1:W.heap[b1]? = some (.cells #[w1_0,w1_1,w1_2,w1_3] 180 (0,0))) (t1:(RingP x).p S (.agg #[w1_0,w1_1,w1_2,w1_3]) W) (p0:ht x.a+ht x.b.re+ht x.b.im+ht x.c+(ht y0.a+ht y0.b.re+ht y0.b.im+ht y0.c)≤67108000) (p1:ht x.a+ht x.b.re+ht x.b.im+ht x.c+(ht y1.a+ht y1.b.re+ht y1.b.im+ht y1.c)≤67108000) (p2:ht x.a+ht x.b.re+ht x.b.im+ht x.c+(ht y2.a+ht y2.b.re+ht y2.b.im+ht y2.c)≤67108000):Calls Tryz.prog 224 #[.slice (some ⟨b0,0,none⟩) 3 n0,.func (.func 225) #[] #[.pointer (some ⟨b1,0,none⟩)]] W (RetV (.bool (!([x.touch y0,x.touch y1,x.touch y2].all id))) W):=by
 refine Run.goP (S:=S) ((Pack.nil.bm B0 3 n0 12 (AllF.app (ringCells t0_0) (AllF.app (ringCells t0_1) (ringCells t0_2)))).bf B1 225 4 (ringCells t1)) Tryz.func224 rfl ?_
 refine Run.cV [.int .i64 (idxF [x.touch y0,x.touch y1,x.touch y2] 0)] kb (fun _ _ _ H=>ix3 n0 y0 y1 y2 x (H.bq 0 12) (RingP.mk (H.f 0) (H.f 1) (H.f 2) (H.f 3)) (RingP.mk (H.f 4) (H.f 5) (H.f 6) (H.f 7)) (RingP.mk (H.f 8) (H.f 9) (H.f 10) (H.f 11)) (H.b 1) (RingP.mk (H.f 12) (H.f 13) (H.f 14) (H.f 15)) p0 p1 p2) ?_
 refine Run.ic (idxF [x.touch y0,x.touch y1,x.touch y2] 0) 0 (decide (0≤(idxF [x.touch y0,x.touch y1,x.touch y2] 0))) ?_
 exact Run.rV ((congrArg Value.bool (idxF_all _)))
theorem tch2 {w0_0 w0_1 w0_2 w0_3 w0_4 w0_5 w0_6 w0_7:Value} {b0:Nat} (n0:Nat) (d0:Ci) (d1:Ci) (B0:∃ r:List Value,W.heap[b0]? = some (.cells ⟨[w0_0,w0_1,w0_2,w0_3,w0_4,w0_5,w0_6,w0_7]++r⟩ 180 (0,0))) (t0_0:(RingP d0).p S (.agg #[w0_0,w0_1,w0_2,w0_3]) W) (t0_1:(RingP d1).p S (.agg #[w0_4,w0_5,w0_6,w0_7]) W) (p0:ht d1.a+ht d1.b.re+ht d1.b.im+ht d1.c+(ht d0.a+ht d0.b.re+ht d0.b.im+ht d0.c)≤67108000):Calls Tryz.prog 113 #[.slice (some ⟨b0,0,none⟩) 2 (n0+2)] W (RetV (.bool ([d1.touch d0].all id)) W):=by
 refine Run.goP (S:=S) (Pack.nil.bm B0 2 (n0+2) 8 (AllF.app (ringCells t0_0) (ringCells t0_1))) Tryz.func113 rfl ?_
 refine Run.cV [.bool (!([].all id))] kb (fun _ _ _ H=>cf0 (n0+2) d0 (H.bq 0 0) (H.b 1) (RingP.mk (H.f 0) (H.f 1) (H.f 2) (H.f 3))) ?_
 refine Run.kn (b:=false) rfl ?_
 refine Run.cV [.bool (!([d1.touch d0].all id))] kb (fun _ _ _ H=>cf1 (n0+2) d0 d1 (H.bq 0 4) (RingP.mk (H.f 0) (H.f 1) (H.f 2) (H.f 3)) (H.b 2) (RingP.mk (H.f 4) (H.f 5) (H.f 6) (H.f 7)) p0) ?_
 refine (Bool.eq_false_or_eq_true (!([d1.touch d0].all id))).elim (fun c1=>?_) (fun c1=>?_)
 · refine Run.kn c1 ?_
   exact Run.rV (V' := .bool false) ((congrArg Value.bool (by simp only [nF c1,Bool.and_false,Bool.false_and,Bool.and_true])))
 · refine Run.kn c1 ?_
   exact Run.rV (V' := .bool true) ((congrArg Value.bool (by simp only [nT c1,Bool.and_false,Bool.false_and,Bool.and_true])))
theorem tch3 {w0_0 w0_1 w0_2 w0_3 w0_4 w0_5 w0_6 w0_7 w0_8 w0_9 w0_10 w0_11:Value} {b0:Nat} (n0:Nat) (d0:Ci) (d1:Ci) (d2:Ci) (B0:∃ r:List Value,W.heap[b0]? = some (.cells ⟨[w0_0,w0_1,w0_2,w0_3,w0_4,w0_5,w0_6,w0_7,w0_8,w0_9,w0_10,w0_11]++r⟩ 180 (0,0))) (t0_0:(RingP d0).p S (.agg #[w0_0,w0_1,w0_2,w0_3]) W) (t0_1:(RingP d1).p S (.agg #[w0_4,w0_5,w0_6,w0_7]) W) (t0_2:(RingP d2).p S (.agg #[w0_8,w0_9,w0_10,w0_11]) W) (p0:ht d1.a+ht d1.b.re+ht d1.b.im+ht d1.c+(ht d0.a+ht d0.b.re+ht d0.b.im+ht d0.c)≤67108000) (p1:ht d2.a+ht d2.b.re+ht d2.b.im+ht d2.c+(ht d0.a+ht d0.b.re+ht d0.b.im+ht d0.c)≤67108000) (p2:ht d2.a+ht d2.b.re+ht d2.b.im+ht d2.c+(ht d1.a+ht d1.b.re+ht d1.b.im+ht d1.c)≤67108000):Calls Tryz.prog 113 #[.slice (some ⟨b0,0,none⟩) 3 (n0+3)] W (RetV (.bool ([d1.touch d0].all id&&[d2.touch d0,d2.touch d1].all id)) W):=by
 refine Run.goP (S:=S) (Pack.nil.bm B0 3 (n0+3) 12 (AllF.app (ringCells t0_0) (AllF.app (ringCells t0_1) (ringCells t0_2)))) Tryz.func113 rfl ?_
 refine Run.cV [.bool (!([].all id))] kb (fun _ _ _ H=>cf0 (n0+3) d0 (H.bq 0 0) (H.b 1) (RingP.mk (H.f 0) (H.f 1) (H.f 2) (H.f 3))) ?_
 refine Run.kn (b:=false) rfl ?_
 refine Run.cV [.bool (!([d1.touch d0].all id))] kb (fun _ _ _ H=>cf1 (n0+3) d0 d1 (H.bq 0 4) (RingP.mk (H.f 0) (H.f 1) (H.f 2) (H.f 3)) (H.b 2) (RingP.mk (H.f 4) (H.f 5) (H.f 6) (H.f 7)) p0) ?_
 refine (Bool.eq_false_or_eq_true (!([d1.touch d0].all id))).elim (fun c1=>?_) (fun c1=>?_)
 · refine Run.kn c1 ?_
   exact Run.rV (V' := .bool false) ((congrArg Value.bool (by simp only [nF c1,Bool.and_false,Bool.false_and,Bool.and_true])))
 · refine Run.kn c1 ?_
   refine Run.cV [.bool (!([d2.touch d0,d2.touch d1].all id))] kb (fun _ _ _ H=>cf2 (n0+3) d0 d1 d2 (H.bq 0 8) (RingP.mk (H.f 0) (H.f 1) (H.f 2) (H.f 3)) (RingP.mk (H.f 4) (H.f 5) (H.f 6) (H.f 7)) (H.b 3) (RingP.mk (H.f 8) (H.f 9) (H.f 10) (H.f 11)) p1 p2) ?_
   refine (Bool.eq_false_or_eq_true (!([d2.touch d0,d2.touch d1].all id))).elim (fun c2=>?_) (fun c2=>?_)
   · refine Run.kn c2 ?_
     exact Run.rV (V' := .bool false) ((congrArg Value.bool (by simp only [nT c1,nF c2,Bool.and_false,Bool.false_and,Bool.and_true])))
   · refine Run.kn c2 ?_
     exact Run.rV (V' := .bool true) ((congrArg Value.bool (by simp only [nT c1,nT c2,Bool.and_false,Bool.false_and,Bool.and_true])))
theorem tch4 {w0_0 w0_1 w0_2 w0_3 w0_4 w0_5 w0_6 w0_7 w0_8 w0_9 w0_10 w0_11 w0_12 w0_13 w0_14 w0_15:Value} {b0:Nat} (n0:Nat) (d0:Ci) (d1:Ci) (d2:Ci) (d3:Ci) (B0:∃ r:List Value,W.heap[b0]? = some (.cells ⟨[w0_0,w0_1,w0_2,w0_3,w0_4,w0_5,w0_6,w0_7,w0_8,w0_9,w0_10,w0_11,w0_12,w0_13,w0_14,w0_15]++r⟩ 180 (0,0))) (t0_0:(RingP d0).p S (.agg #[w0_0,w0_1,w0_2,w0_3]) W) (t0_1:(RingP d1).p S (.agg #[w0_4,w0_5,w0_6,w0_7]) W) (t0_2:(RingP d2).p S (.agg #[w0_8,w0_9,w0_10,w0_11]) W) (t0_3:(RingP d3).p S (.agg #[w0_12,w0_13,w0_14,w0_15]) W) (p0:ht d1.a+ht d1.b.re+ht d1.b.im+ht d1.c+(ht d0.a+ht d0.b.re+ht d0.b.im+ht d0.c)≤67108000) (p1:ht d2.a+ht d2.b.re+ht d2.b.im+ht d2.c+(ht d0.a+ht d0.b.re+ht d0.b.im+ht d0.c)≤67108000) (p2:ht d2.a+ht d2.b.re+ht d2.b.im+ht d2.c+(ht d1.a+ht d1.b.re+ht d1.b.im+ht d1.c)≤67108000) (p3:ht d3.a+ht d3.b.re+ht d3.b.im+ht d3.c+(ht d0.a+ht d0.b.re+ht d0.b.im+ht d0.c)≤67108000) (p4:ht d3.a+ht d3.b.re+ht d3.b.im+ht d3.c+(ht d1.a+ht d1.b.re+ht d1.b.im+ht d1.c)≤67108000) (p5:ht d3.a+ht d3.b.re+ht d3.b.im+ht d3.c+(ht d2.a+ht d2.b.re+ht d2.b.im+ht d2.c)≤67108000):Calls Tryz.prog 113 #[.slice (some ⟨b0,0,none⟩) 4 (n0+4)] W (RetV (.bool ([d1.touch d0].all id&&[d2.touch d0,d2.touch d1].all id&&[d3.touch d0,d3.touch d1,d3.touch d2].all id)) W):=by
 refine Run.goP (S:=S) (Pack.nil.bm B0 4 (n0+4) 16 (AllF.app (ringCells t0_0) (AllF.app (ringCells t0_1) (AllF.app (ringCells t0_2) (ringCells t0_3))))) Tryz.func113 rfl ?_
 refine Run.cV [.bool (!([].all id))] kb (fun _ _ _ H=>cf0 (n0+4) d0 (H.bq 0 0) (H.b 1) (RingP.mk (H.f 0) (H.f 1) (H.f 2) (H.f 3))) ?_
 refine Run.kn (b:=false) rfl ?_
 refine Run.cV [.bool (!([d1.touch d0].all id))] kb (fun _ _ _ H=>cf1 (n0+4) d0 d1 (H.bq 0 4) (RingP.mk (H.f 0) (H.f 1) (H.f 2) (H.f 3)) (H.b 2) (RingP.mk (H.f 4) (H.f 5) (H.f 6) (H.f 7)) p0) ?_
 refine (Bool.eq_false_or_eq_true (!([d1.touch d0].all id))).elim (fun c1=>?_) (fun c1=>?_)
 · refine Run.kn c1 ?_
   exact Run.rV (V' := .bool false) ((congrArg Value.bool (by simp only [nF c1,Bool.and_false,Bool.false_and,Bool.and_true])))
 · refine Run.kn c1 ?_
   refine Run.cV [.bool (!([d2.touch d0,d2.touch d1].all id))] kb (fun _ _ _ H=>cf2 (n0+4) d0 d1 d2 (H.bq 0 8) (RingP.mk (H.f 0) (H.f 1) (H.f 2) (H.f 3)) (RingP.mk (H.f 4) (H.f 5) (H.f 6) (H.f 7)) (H.b 3) (RingP.mk (H.f 8) (H.f 9) (H.f 10) (H.f 11)) p1 p2) ?_
   refine (Bool.eq_false_or_eq_true (!([d2.touch d0,d2.touch d1].all id))).elim (fun c2=>?_) (fun c2=>?_)
   · refine Run.kn c2 ?_
     exact Run.rV (V' := .bool false) ((congrArg Value.bool (by simp only [nT c1,nF c2,Bool.and_false,Bool.false_and,Bool.and_true])))
   · refine Run.kn c2 ?_
     refine Run.cV [.bool (!([d3.touch d0,d3.touch d1,d3.touch d2].all id))] kb (fun _ _ _ H=>cf3 (n0+4) d0 d1 d2 d3 (H.bq 0 12) (RingP.mk (H.f 0) (H.f 1) (H.f 2) (H.f 3)) (RingP.mk (H.f 4) (H.f 5) (H.f 6) (H.f 7)) (RingP.mk (H.f 8) (H.f 9) (H.f 10) (H.f 11)) (H.b 4) (RingP.mk (H.f 12) (H.f 13) (H.f 14) (H.f 15)) p3 p4 p5) ?_
     refine (Bool.eq_false_or_eq_true (!([d3.touch d0,d3.touch d1,d3.touch d2].all id))).elim (fun c3=>?_) (fun c3=>?_)
     · refine Run.kn c3 ?_
       exact Run.rV (V' := .bool false) ((congrArg Value.bool (by simp only [nT c1,nT c2,nF c3,Bool.and_false,Bool.false_and,Bool.and_true])))
     · refine Run.kn c3 ?_
       exact Run.rV (V' := .bool true) ((congrArg Value.bool (by simp only [nT c1,nT c2,nT c3,Bool.and_false,Bool.false_and,Bool.and_true])))
theorem pl2Y {b0:Nat} (T0:TypeId) (d0:Ci) (d1:Ci) (B0:W.heap[b0]? = some (.cells (⟨(ciC d0).toList++((ciC d1).toList)⟩) T0 (0,0))) (p0:dsOk (rci d0)=true) (p1:dsOk (rci d1)=true):Calls Tryz.prog 112 #[.slice (some ⟨b0,0,none⟩) 2 2] W (RetB 180 2 (ringF [d0,d1]) (.bool true) S W):=by
 refine Run.goP (S:=S) (Pack.nil.b B0 (some 2) 32) Tryz.func112 rfl ?_
 refine Run.cR (spRingC true) (fun _ _ _ H=>ePlateO d0 p0) ?_
 refine Run.a0 180 172 3 (fun cp1=>?_)
 refine Run.cR (spRingC true) (fun _ _ _ H=>ePlateO d1 p1) ?_
 refine Run.ap 172 4 1 cp1 7 (fun cp2=>?_)
 exact Run.rB 4 cp2
theorem pl20 {b0:Nat} (T0:TypeId) (r0:RCi) (r1:RCi) (B0:W.heap[b0]? = some (.cells (⟨(rciC r0).toList++((rciC r1).toList)⟩) T0 (0,0))) (p0:dsOk r0=false):Calls Tryz.prog 112 #[.slice (some ⟨b0,0,none⟩) 2 2] W (RetV (.tuple #[.slice none 0 0,.bool false]) W):=by
 refine Run.goP (S:=Z0) (Pack.nil.b B0 (some 2) 32) Tryz.func112 rfl ?_
 refine Run.cR (spRingJC false) (fun _ _ _ H=>ePlateN r0 p0) ?_
 exact Run.rV rfl
theorem pl21 {b0:Nat} (T0:TypeId) (d0:Ci) (r1:RCi) (B0:W.heap[b0]? = some (.cells (⟨(ciC d0).toList++((rciC r1).toList)⟩) T0 (0,0))) (p0:dsOk (rci d0)=true) (p1:dsOk r1=false):Calls Tryz.prog 112 #[.slice (some ⟨b0,0,none⟩) 2 2] W (RetV (.tuple #[.slice none 0 0,.bool false]) W):=by
 refine Run.goP (S:=Z0) (Pack.nil.b B0 (some 2) 32) Tryz.func112 rfl ?_
 refine Run.cR (spRingC true) (fun _ _ _ H=>ePlateO d0 p0) ?_
 refine Run.a0 180 172 3 (fun cp1=>?_)
 refine Run.cR (spRingJC false) (fun _ _ _ H=>ePlateN r1 p1) ?_
 exact Run.rV rfl
theorem pl3Y {b0:Nat} (T0:TypeId) (d0:Ci) (d1:Ci) (d2:Ci) (B0:W.heap[b0]? = some (.cells (⟨(ciC d0).toList++((ciC d1).toList++((ciC d2).toList))⟩) T0 (0,0))) (p0:dsOk (rci d0)=true) (p1:dsOk (rci d1)=true) (p2:dsOk (rci d2)=true):Calls Tryz.prog 112 #[.slice (some ⟨b0,0,none⟩) 3 3] W (RetB 180 3 (ringF [d0,d1,d2]) (.bool true) S W):=by
 refine Run.goP (S:=S) (Pack.nil.b B0 (some 3) 48) Tryz.func112 rfl ?_
 refine Run.cR (spRingC true) (fun _ _ _ H=>ePlateO d0 p0) ?_
 refine Run.a0 180 172 3 (fun cp1=>?_)
 refine Run.cR (spRingC true) (fun _ _ _ H=>ePlateO d1 p1) ?_
 refine Run.ap 172 4 1 cp1 7 (fun cp2=>?_)
 refine Run.cR (spRingC true) (fun _ _ _ H=>ePlateO d2 p2) ?_
 refine Run.ap 172 4 2 cp2 10 (fun cp3=>?_)
 exact Run.rB 4 cp3
theorem pl4Y {b0:Nat} (T0:TypeId) (d0:Ci) (d1:Ci) (d2:Ci) (d3:Ci) (B0:W.heap[b0]? = some (.cells (⟨(ciC d0).toList++((ciC d1).toList++((ciC d2).toList++((ciC d3).toList)))⟩) T0 (0,0))) (p0:dsOk (rci d0)=true) (p1:dsOk (rci d1)=true) (p2:dsOk (rci d2)=true) (p3:dsOk (rci d3)=true):Calls Tryz.prog 112 #[.slice (some ⟨b0,0,none⟩) 4 4] W (RetB 180 4 (ringF [d0,d1,d2,d3]) (.bool true) S W):=by
 refine Run.goP (S:=S) (Pack.nil.b B0 (some 4) 64) Tryz.func112 rfl ?_
 refine Run.cR (spRingC true) (fun _ _ _ H=>ePlateO d0 p0) ?_
 refine Run.a0 180 172 3 (fun cp1=>?_)
 refine Run.cR (spRingC true) (fun _ _ _ H=>ePlateO d1 p1) ?_
 refine Run.ap 172 4 1 cp1 7 (fun cp2=>?_)
 refine Run.cR (spRingC true) (fun _ _ _ H=>ePlateO d2 p2) ?_
 refine Run.ap 172 4 2 cp2 10 (fun cp3=>?_)
 refine Run.cR (spRingC true) (fun _ _ _ H=>ePlateO d3 p3) ?_
 refine Run.ap 172 4 3 cp3 13 (fun cp4=>?_)
 exact Run.rB 4 cp4
theorem acm0 {w1_0 w1_1 w1_2 w1_3 w1_4 w1_5 w1_6 w1_7 w1_8 w1_9 w1_10 w1_11:Value} {b1:Nat} (x0:Rat) (x1:Rat) (x2:Rat) (x3:Rat) (y0:Rat) (y1:Rat) (y2:Rat) (y3:Rat) (z0:Rat) (z1:Rat) (z2:Rat) (z3:Rat) (B1:W.heap[b1]? = some (.cells #[w1_0,w1_1,w1_2,w1_3,w1_4,w1_5,w1_6,w1_7,w1_8,w1_9,w1_10,w1_11] 299 (0,0))) (hw1_0:(RatP x0).p S w1_0 W) (hw1_1:(RatP x1).p S w1_1 W) (hw1_2:(RatP x2).p S w1_2 W) (hw1_3:(RatP x3).p S w1_3 W) (hw1_4:(RatP y0).p S w1_4 W) (hw1_5:(RatP y1).p S w1_5 W) (hw1_6:(RatP y2).p S w1_6 W) (hw1_7:(RatP y3).p S w1_7 W) (hw1_8:(RatP z0).p S w1_8 W) (hw1_9:(RatP z1).p S w1_9 W) (hw1_10:(RatP z2).p S w1_10 W) (hw1_11:(RatP z3).p S w1_11 W) (p0:ht x0+ht x1+ht x2+ht x3≤40000) (p1:ht y0+ht y1+ht y2+ht y3≤40000) (p2:ht z0+ht z1+ht z2+ht z3≤40000):Calls Tryz.prog 228 #[.int .i64 0,.pointer (some ⟨b1,0,none⟩)] W (Ret (RatP (mn3 x1 x2 x3 y1 y2 y3 z1 z2 z3)) Z0 W):=by
 obtain ⟨ex0,ex1,ex2,ex3,ey0,ey1,ey2,ey3,ez0,ez1,ez2,ez3⟩:ht x0≤40000∧ht x1≤40000∧ht x2≤40000∧ht x3≤40000∧ht y0≤40000∧ht y1≤40000∧ht y2≤40000∧ht y3≤40000∧ht z0≤40000∧ht z1≤40000∧ht z2≤40000∧ht z3≤40000:=by omega
 have k0:=hb_mul ey2 ez3 80000
 have k1:=hb_mul ey3 ez2 80000
 have k2:=hb_sub k0 k1 160000
 have k3:=hb_mul k2 ex1 200000
 have k4:=hb_add (Nat.le_of_eq ht_zero) k3 200002
 have k5:=hb_mul ey3 ez1 80000
 have k6:=hb_mul ey1 ez3 80000
 have k7:=hb_sub k5 k6 160000
 have k8:=hb_mul k7 ex2 200000
 have k9:=hb_add k4 k8 400002
 have k10:=hb_mul ey1 ez2 80000
 have k11:=hb_mul ey2 ez1 80000
 have k12:=hb_sub k10 k11 160000
 have k13:=hb_mul k12 ex3 200000
 have k14:=hb_add k9 k13 600002
 refine Run.goP (S:=S) ((Pack.nil.k (.int .i64 0) [] (.s (.o (.c (.int .i64 0))))).bv B1 none 12 (AllF.rat hw1_0 (AllF.rat hw1_1 (AllF.rat hw1_2 (AllF.rat hw1_3 (AllF.rat hw1_4 (AllF.rat hw1_5 (AllF.rat hw1_6 (AllF.rat hw1_7 (AllF.rat hw1_8 (AllF.rat hw1_9 (AllF.rat hw1_10 (AllF.rat hw1_11 AllF.z))))))))))))) Tryz.func228 rfl ?_
 refine Run.a0 3 75 1 (fun cp1=>?_)
 refine Run.ap 75 2 1 cp1 3 (fun cp2=>?_)
 refine Run.ap 75 2 2 cp2 4 (fun cp3=>?_)
 refine Run.dr ?_
 refine RunD.en ?_
 refine Run.dr ?_
 refine RunD.cO 6 softRat (fun _ _ _ H=>qMul y2 z3 (RatP.blk (H.oz 6)) (anyV (H.f 6)) (anyV (H.f 11)) (Nat.le_trans (Nat.add_le_add ey2 ez3) (by decide))) ?_
 refine RunD.en ?_
 refine Run.dr ?_
 refine RunD.cO 7 softRat (fun _ _ _ H=>qMul y3 z2 (RatP.blk (H.oz 7)) (anyV (H.f 7)) (anyV (H.f 10)) (Nat.le_trans (Nat.add_le_add ey3 ez2) (by decide))) ?_
 refine RunD.cO 6 softRat (fun _ _ _ H=>qSub (y2*z3) (y3*z2) (RatP.blk (q:=y2*z3) (H.o 6)) (anyV (H.o 6)) (anyV (H.o 7)) (Nat.le_trans (Nat.add_le_add k0 k1) (by decide))) ?_
 refine RunD.en ?_
 refine Run.cO 6 softRat (fun _ _ _ H=>qMul ((y2*z3)-(y3*z2)) x1 (RatP.blk (q:=(y2*z3)-(y3*z2)) (H.o 6)) (anyV (H.o 6)) (anyV (H.f 1)) (Nat.le_trans (Nat.add_le_add k2 ex1) (by decide))) ?_
 refine Run.cO 5 softRat (fun _ _ _ H=>qAdd (0:Rat) (((y2*z3)-(y3*z2))*x1) (RatP.blk (H.oz 5)) (anyV (H.oz 5)) (anyV (H.o 6)) (Nat.le_trans (Nat.add_le_add (Nat.le_of_eq ht_zero) k3) (by decide))) ?_
 refine Run.dr ?_
 refine RunD.en ?_
 refine Run.dr ?_
 refine RunD.cO 8 softRat (fun _ _ _ H=>qMul y3 z1 (RatP.blk (H.oz 8)) (anyV (H.f 7)) (anyV (H.f 9)) (Nat.le_trans (Nat.add_le_add ey3 ez1) (by decide))) ?_
 refine RunD.en ?_
 refine Run.dr ?_
 refine RunD.cO 9 softRat (fun _ _ _ H=>qMul y1 z3 (RatP.blk (H.oz 9)) (anyV (H.f 5)) (anyV (H.f 11)) (Nat.le_trans (Nat.add_le_add ey1 ez3) (by decide))) ?_
 refine RunD.cO 8 softRat (fun _ _ _ H=>qSub (y3*z1) (y1*z3) (RatP.blk (q:=y3*z1) (H.o 8)) (anyV (H.o 8)) (anyV (H.o 9)) (Nat.le_trans (Nat.add_le_add k5 k6) (by decide))) ?_
 refine RunD.en ?_
 refine Run.cO 8 softRat (fun _ _ _ H=>qMul ((y3*z1)-(y1*z3)) x2 (RatP.blk (q:=(y3*z1)-(y1*z3)) (H.o 8)) (anyV (H.o 8)) (anyV (H.f 2)) (Nat.le_trans (Nat.add_le_add k7 ex2) (by decide))) ?_
 refine Run.cO 5 softRat (fun _ _ _ H=>qAdd ((0:Rat)+(((y2*z3)-(y3*z2))*x1)) (((y3*z1)-(y1*z3))*x2) (RatP.blk (q:=(0:Rat)+(((y2*z3)-(y3*z2))*x1)) (H.o 5)) (anyV (H.o 5)) (anyV (H.o 8)) (Nat.le_trans (Nat.add_le_add k4 k8) (by decide))) ?_
 refine Run.dr ?_
 refine RunD.en ?_
 refine Run.dr ?_
 refine RunD.cO 10 softRat (fun _ _ _ H=>qMul y1 z2 (RatP.blk (H.oz 10)) (anyV (H.f 5)) (anyV (H.f 10)) (Nat.le_trans (Nat.add_le_add ey1 ez2) (by decide))) ?_
 refine RunD.en ?_
 refine Run.dr ?_
 refine RunD.cO 11 softRat (fun _ _ _ H=>qMul y2 z1 (RatP.blk (H.oz 11)) (anyV (H.f 6)) (anyV (H.f 9)) (Nat.le_trans (Nat.add_le_add ey2 ez1) (by decide))) ?_
 refine RunD.cO 10 softRat (fun _ _ _ H=>qSub (y1*z2) (y2*z1) (RatP.blk (q:=y1*z2) (H.o 10)) (anyV (H.o 10)) (anyV (H.o 11)) (Nat.le_trans (Nat.add_le_add k10 k11) (by decide))) ?_
 refine RunD.en ?_
 refine Run.cO 10 softRat (fun _ _ _ H=>qMul ((y1*z2)-(y2*z1)) x3 (RatP.blk (q:=(y1*z2)-(y2*z1)) (H.o 10)) (anyV (H.o 10)) (anyV (H.f 3)) (Nat.le_trans (Nat.add_le_add k12 ex3) (by decide))) ?_
 refine Run.cO 5 softRat (fun _ _ _ H=>qAdd (((0:Rat)+(((y2*z3)-(y3*z2))*x1))+(((y3*z1)-(y1*z3))*x2)) (((y1*z2)-(y2*z1))*x3) (RatP.blk (q:=((0:Rat)+(((y2*z3)-(y3*z2))*x1))+(((y3*z1)-(y1*z3))*x2)) (H.o 5)) (anyV (H.o 5)) (anyV (H.o 10)) (Nat.le_trans (Nat.add_le_add k9 k13) (by decide))) ?_
 exact Run.rN (φ:=RatP (mn3 x1 x2 x3 y1 y2 y3 z1 z2 z3)) 5 (fun _ _ _ H=>⟨H.ow 5,VPe (φ:=RatP) (rfl) (H.o 5)⟩)
theorem acm1 {w1_0 w1_1 w1_2 w1_3 w1_4 w1_5 w1_6 w1_7 w1_8 w1_9 w1_10 w1_11:Value} {b1:Nat} (x0:Rat) (x1:Rat) (x2:Rat) (x3:Rat) (y0:Rat) (y1:Rat) (y2:Rat) (y3:Rat) (z0:Rat) (z1:Rat) (z2:Rat) (z3:Rat) (B1:W.heap[b1]? = some (.cells #[w1_0,w1_1,w1_2,w1_3,w1_4,w1_5,w1_6,w1_7,w1_8,w1_9,w1_10,w1_11] 299 (0,0))) (hw1_0:(RatP x0).p S w1_0 W) (hw1_1:(RatP x1).p S w1_1 W) (hw1_2:(RatP x2).p S w1_2 W) (hw1_3:(RatP x3).p S w1_3 W) (hw1_4:(RatP y0).p S w1_4 W) (hw1_5:(RatP y1).p S w1_5 W) (hw1_6:(RatP y2).p S w1_6 W) (hw1_7:(RatP y3).p S w1_7 W) (hw1_8:(RatP z0).p S w1_8 W) (hw1_9:(RatP z1).p S w1_9 W) (hw1_10:(RatP z2).p S w1_10 W) (hw1_11:(RatP z3).p S w1_11 W) (p0:ht x0+ht x1+ht x2+ht x3≤40000) (p1:ht y0+ht y1+ht y2+ht y3≤40000) (p2:ht z0+ht z1+ht z2+ht z3≤40000):Calls Tryz.prog 228 #[.int .i64 1,.pointer (some ⟨b1,0,none⟩)] W (Ret (RatP (-(mn3 x0 x2 x3 y0 y2 y3 z0 z2 z3))) Z0 W):=by
 obtain ⟨ex0,ex1,ex2,ex3,ey0,ey1,ey2,ey3,ez0,ez1,ez2,ez3⟩:ht x0≤40000∧ht x1≤40000∧ht x2≤40000∧ht x3≤40000∧ht y0≤40000∧ht y1≤40000∧ht y2≤40000∧ht y3≤40000∧ht z0≤40000∧ht z1≤40000∧ht z2≤40000∧ht z3≤40000:=by omega
 have k0:=hb_mul ey2 ez3 80000
 have k1:=hb_mul ey3 ez2 80000
 have k2:=hb_sub k0 k1 160000
 have k3:=hb_mul k2 ex0 200000
 have k4:=hb_add (Nat.le_of_eq ht_zero) k3 200002
 have k5:=hb_mul ey3 ez0 80000
 have k6:=hb_mul ey0 ez3 80000
 have k7:=hb_sub k5 k6 160000
 have k8:=hb_mul k7 ex2 200000
 have k9:=hb_add k4 k8 400002
 have k10:=hb_mul ey0 ez2 80000
 have k11:=hb_mul ey2 ez0 80000
 have k12:=hb_sub k10 k11 160000
 have k13:=hb_mul k12 ex3 200000
 have k14:=hb_add k9 k13 600002
 have k15:=hb_neg k14
 refine Run.goP (S:=S) ((Pack.nil.k (.int .i64 1) [] (.s (.o (.c (.int .i64 1))))).bv B1 none 12 (AllF.rat hw1_0 (AllF.rat hw1_1 (AllF.rat hw1_2 (AllF.rat hw1_3 (AllF.rat hw1_4 (AllF.rat hw1_5 (AllF.rat hw1_6 (AllF.rat hw1_7 (AllF.rat hw1_8 (AllF.rat hw1_9 (AllF.rat hw1_10 (AllF.rat hw1_11 AllF.z))))))))))))) Tryz.func228 rfl ?_
 refine Run.a0 3 75 1 (fun cp1=>?_)
 refine Run.ap 75 2 1 cp1 3 (fun cp2=>?_)
 refine Run.ap 75 2 2 cp2 4 (fun cp3=>?_)
 refine Run.dr ?_
 refine RunD.en ?_
 refine Run.dr ?_
 refine RunD.cO 6 softRat (fun _ _ _ H=>qMul y2 z3 (RatP.blk (H.oz 6)) (anyV (H.f 6)) (anyV (H.f 11)) (Nat.le_trans (Nat.add_le_add ey2 ez3) (by decide))) ?_
 refine RunD.en ?_
 refine Run.dr ?_
 refine RunD.cO 7 softRat (fun _ _ _ H=>qMul y3 z2 (RatP.blk (H.oz 7)) (anyV (H.f 7)) (anyV (H.f 10)) (Nat.le_trans (Nat.add_le_add ey3 ez2) (by decide))) ?_
 refine RunD.cO 6 softRat (fun _ _ _ H=>qSub (y2*z3) (y3*z2) (RatP.blk (q:=y2*z3) (H.o 6)) (anyV (H.o 6)) (anyV (H.o 7)) (Nat.le_trans (Nat.add_le_add k0 k1) (by decide))) ?_
 refine RunD.en ?_
 refine Run.cO 6 softRat (fun _ _ _ H=>qMul ((y2*z3)-(y3*z2)) x0 (RatP.blk (q:=(y2*z3)-(y3*z2)) (H.o 6)) (anyV (H.o 6)) (anyV (H.f 0)) (Nat.le_trans (Nat.add_le_add k2 ex0) (by decide))) ?_
 refine Run.cO 5 softRat (fun _ _ _ H=>qAdd (0:Rat) (((y2*z3)-(y3*z2))*x0) (RatP.blk (H.oz 5)) (anyV (H.oz 5)) (anyV (H.o 6)) (Nat.le_trans (Nat.add_le_add (Nat.le_of_eq ht_zero) k3) (by decide))) ?_
 refine Run.dr ?_
 refine RunD.en ?_
 refine Run.dr ?_
 refine RunD.cO 8 softRat (fun _ _ _ H=>qMul y3 z0 (RatP.blk (H.oz 8)) (anyV (H.f 7)) (anyV (H.f 8)) (Nat.le_trans (Nat.add_le_add ey3 ez0) (by decide))) ?_
 refine RunD.en ?_
 refine Run.dr ?_
 refine RunD.cO 9 softRat (fun _ _ _ H=>qMul y0 z3 (RatP.blk (H.oz 9)) (anyV (H.f 4)) (anyV (H.f 11)) (Nat.le_trans (Nat.add_le_add ey0 ez3) (by decide))) ?_
 refine RunD.cO 8 softRat (fun _ _ _ H=>qSub (y3*z0) (y0*z3) (RatP.blk (q:=y3*z0) (H.o 8)) (anyV (H.o 8)) (anyV (H.o 9)) (Nat.le_trans (Nat.add_le_add k5 k6) (by decide))) ?_
 refine RunD.en ?_
 refine Run.cO 8 softRat (fun _ _ _ H=>qMul ((y3*z0)-(y0*z3)) x2 (RatP.blk (q:=(y3*z0)-(y0*z3)) (H.o 8)) (anyV (H.o 8)) (anyV (H.f 2)) (Nat.le_trans (Nat.add_le_add k7 ex2) (by decide))) ?_
 refine Run.cO 5 softRat (fun _ _ _ H=>qAdd ((0:Rat)+(((y2*z3)-(y3*z2))*x0)) (((y3*z0)-(y0*z3))*x2) (RatP.blk (q:=(0:Rat)+(((y2*z3)-(y3*z2))*x0)) (H.o 5)) (anyV (H.o 5)) (anyV (H.o 8)) (Nat.le_trans (Nat.add_le_add k4 k8) (by decide))) ?_
 refine Run.dr ?_
 refine RunD.en ?_
 refine Run.dr ?_
 refine RunD.cO 10 softRat (fun _ _ _ H=>qMul y0 z2 (RatP.blk (H.oz 10)) (anyV (H.f 4)) (anyV (H.f 10)) (Nat.le_trans (Nat.add_le_add ey0 ez2) (by decide))) ?_
 refine RunD.en ?_
 refine Run.dr ?_
 refine RunD.cO 11 softRat (fun _ _ _ H=>qMul y2 z0 (RatP.blk (H.oz 11)) (anyV (H.f 6)) (anyV (H.f 8)) (Nat.le_trans (Nat.add_le_add ey2 ez0) (by decide))) ?_
 refine RunD.cO 10 softRat (fun _ _ _ H=>qSub (y0*z2) (y2*z0) (RatP.blk (q:=y0*z2) (H.o 10)) (anyV (H.o 10)) (anyV (H.o 11)) (Nat.le_trans (Nat.add_le_add k10 k11) (by decide))) ?_
 refine RunD.en ?_
 refine Run.cO 10 softRat (fun _ _ _ H=>qMul ((y0*z2)-(y2*z0)) x3 (RatP.blk (q:=(y0*z2)-(y2*z0)) (H.o 10)) (anyV (H.o 10)) (anyV (H.f 3)) (Nat.le_trans (Nat.add_le_add k12 ex3) (by decide))) ?_
 refine Run.cO 5 softRat (fun _ _ _ H=>qAdd (((0:Rat)+(((y2*z3)-(y3*z2))*x0))+(((y3*z0)-(y0*z3))*x2)) (((y0*z2)-(y2*z0))*x3) (RatP.blk (q:=((0:Rat)+(((y2*z3)-(y3*z2))*x0))+(((y3*z0)-(y0*z3))*x2)) (H.o 5)) (anyV (H.o 5)) (anyV (H.o 10)) (Nat.le_trans (Nat.add_le_add k9 k13) (by decide))) ?_
 refine Run.cO 5 softRat (fun _ _ _ H=>qNeg ((((0:Rat)+(((y2*z3)-(y3*z2))*x0))+(((y3*z0)-(y0*z3))*x2))+(((y0*z2)-(y2*z0))*x3)) (RatP.blk (q:=(((0:Rat)+(((y2*z3)-(y3*z2))*x0))+(((y3*z0)-(y0*z3))*x2))+(((y0*z2)-(y2*z0))*x3)) (H.o 5)) (anyV (H.o 5)) (Nat.le_trans k14 (by decide))) ?_
 exact Run.rN (φ:=RatP (-(mn3 x0 x2 x3 y0 y2 y3 z0 z2 z3))) 5 (fun _ _ _ H=>⟨H.ow 5,VPe (φ:=RatP) (rfl) (H.o 5)⟩)
theorem acm2 {w1_0 w1_1 w1_2 w1_3 w1_4 w1_5 w1_6 w1_7 w1_8 w1_9 w1_10 w1_11:Value} {b1:Nat} (x0:Rat) (x1:Rat) (x2:Rat) (x3:Rat) (y0:Rat) (y1:Rat) (y2:Rat) (y3:Rat) (z0:Rat) (z1:Rat) (z2:Rat) (z3:Rat) (B1:W.heap[b1]? = some (.cells #[w1_0,w1_1,w1_2,w1_3,w1_4,w1_5,w1_6,w1_7,w1_8,w1_9,w1_10,w1_11] 299 (0,0))) (hw1_0:(RatP x0).p S w1_0 W) (hw1_1:(RatP x1).p S w1_1 W) (hw1_2:(RatP x2).p S w1_2 W) (hw1_3:(RatP x3).p S w1_3 W) (hw1_4:(RatP y0).p S w1_4 W) (hw1_5:(RatP y1).p S w1_5 W) (hw1_6:(RatP y2).p S w1_6 W) (hw1_7:(RatP y3).p S w1_7 W) (hw1_8:(RatP z0).p S w1_8 W) (hw1_9:(RatP z1).p S w1_9 W) (hw1_10:(RatP z2).p S w1_10 W) (hw1_11:(RatP z3).p S w1_11 W) (p0:ht x0+ht x1+ht x2+ht x3≤40000) (p1:ht y0+ht y1+ht y2+ht y3≤40000) (p2:ht z0+ht z1+ht z2+ht z3≤40000):Calls Tryz.prog 228 #[.int .i64 2,.pointer (some ⟨b1,0,none⟩)] W (Ret (RatP (mn3 x0 x1 x3 y0 y1 y3 z0 z1 z3)) Z0 W):=by
 obtain ⟨ex0,ex1,ex2,ex3,ey0,ey1,ey2,ey3,ez0,ez1,ez2,ez3⟩:ht x0≤40000∧ht x1≤40000∧ht x2≤40000∧ht x3≤40000∧ht y0≤40000∧ht y1≤40000∧ht y2≤40000∧ht y3≤40000∧ht z0≤40000∧ht z1≤40000∧ht z2≤40000∧ht z3≤40000:=by omega
 have k0:=hb_mul ey1 ez3 80000
 have k1:=hb_mul ey3 ez1 80000
 have k2:=hb_sub k0 k1 160000
 have k3:=hb_mul k2 ex0 200000
 have k4:=hb_add (Nat.le_of_eq ht_zero) k3 200002
 have k5:=hb_mul ey3 ez0 80000
 have k6:=hb_mul ey0 ez3 80000
 have k7:=hb_sub k5 k6 160000
 have k8:=hb_mul k7 ex1 200000
 have k9:=hb_add k4 k8 400002
 have k10:=hb_mul ey0 ez1 80000
 have k11:=hb_mul ey1 ez0 80000
 have k12:=hb_sub k10 k11 160000
 have k13:=hb_mul k12 ex3 200000
 have k14:=hb_add k9 k13 600002
 refine Run.goP (S:=S) ((Pack.nil.k (.int .i64 2) [] (.s (.o (.c (.int .i64 2))))).bv B1 none 12 (AllF.rat hw1_0 (AllF.rat hw1_1 (AllF.rat hw1_2 (AllF.rat hw1_3 (AllF.rat hw1_4 (AllF.rat hw1_5 (AllF.rat hw1_6 (AllF.rat hw1_7 (AllF.rat hw1_8 (AllF.rat hw1_9 (AllF.rat hw1_10 (AllF.rat hw1_11 AllF.z))))))))))))) Tryz.func228 rfl ?_
 refine Run.a0 3 75 1 (fun cp1=>?_)
 refine Run.ap 75 2 1 cp1 3 (fun cp2=>?_)
 refine Run.ap 75 2 2 cp2 4 (fun cp3=>?_)
 refine Run.dr ?_
 refine RunD.en ?_
 refine Run.dr ?_
 refine RunD.cO 6 softRat (fun _ _ _ H=>qMul y1 z3 (RatP.blk (H.oz 6)) (anyV (H.f 5)) (anyV (H.f 11)) (Nat.le_trans (Nat.add_le_add ey1 ez3) (by decide))) ?_
 refine RunD.en ?_
 refine Run.dr ?_
 refine RunD.cO 7 softRat (fun _ _ _ H=>qMul y3 z1 (RatP.blk (H.oz 7)) (anyV (H.f 7)) (anyV (H.f 9)) (Nat.le_trans (Nat.add_le_add ey3 ez1) (by decide))) ?_
 refine RunD.cO 6 softRat (fun _ _ _ H=>qSub (y1*z3) (y3*z1) (RatP.blk (q:=y1*z3) (H.o 6)) (anyV (H.o 6)) (anyV (H.o 7)) (Nat.le_trans (Nat.add_le_add k0 k1) (by decide))) ?_
 refine RunD.en ?_
 refine Run.cO 6 softRat (fun _ _ _ H=>qMul ((y1*z3)-(y3*z1)) x0 (RatP.blk (q:=(y1*z3)-(y3*z1)) (H.o 6)) (anyV (H.o 6)) (anyV (H.f 0)) (Nat.le_trans (Nat.add_le_add k2 ex0) (by decide))) ?_
 refine Run.cO 5 softRat (fun _ _ _ H=>qAdd (0:Rat) (((y1*z3)-(y3*z1))*x0) (RatP.blk (H.oz 5)) (anyV (H.oz 5)) (anyV (H.o 6)) (Nat.le_trans (Nat.add_le_add (Nat.le_of_eq ht_zero) k3) (by decide))) ?_
 refine Run.dr ?_
 refine RunD.en ?_
 refine Run.dr ?_
 refine RunD.cO 8 softRat (fun _ _ _ H=>qMul y3 z0 (RatP.blk (H.oz 8)) (anyV (H.f 7)) (anyV (H.f 8)) (Nat.le_trans (Nat.add_le_add ey3 ez0) (by decide))) ?_
 refine RunD.en ?_
 refine Run.dr ?_
 refine RunD.cO 9 softRat (fun _ _ _ H=>qMul y0 z3 (RatP.blk (H.oz 9)) (anyV (H.f 4)) (anyV (H.f 11)) (Nat.le_trans (Nat.add_le_add ey0 ez3) (by decide))) ?_
 refine RunD.cO 8 softRat (fun _ _ _ H=>qSub (y3*z0) (y0*z3) (RatP.blk (q:=y3*z0) (H.o 8)) (anyV (H.o 8)) (anyV (H.o 9)) (Nat.le_trans (Nat.add_le_add k5 k6) (by decide))) ?_
 refine RunD.en ?_
 refine Run.cO 8 softRat (fun _ _ _ H=>qMul ((y3*z0)-(y0*z3)) x1 (RatP.blk (q:=(y3*z0)-(y0*z3)) (H.o 8)) (anyV (H.o 8)) (anyV (H.f 1)) (Nat.le_trans (Nat.add_le_add k7 ex1) (by decide))) ?_
 refine Run.cO 5 softRat (fun _ _ _ H=>qAdd ((0:Rat)+(((y1*z3)-(y3*z1))*x0)) (((y3*z0)-(y0*z3))*x1) (RatP.blk (q:=(0:Rat)+(((y1*z3)-(y3*z1))*x0)) (H.o 5)) (anyV (H.o 5)) (anyV (H.o 8)) (Nat.le_trans (Nat.add_le_add k4 k8) (by decide))) ?_
 refine Run.dr ?_
 refine RunD.en ?_
 refine Run.dr ?_
 refine RunD.cO 10 softRat (fun _ _ _ H=>qMul y0 z1 (RatP.blk (H.oz 10)) (anyV (H.f 4)) (anyV (H.f 9)) (Nat.le_trans (Nat.add_le_add ey0 ez1) (by decide))) ?_
 refine RunD.en ?_
 refine Run.dr ?_
 refine RunD.cO 11 softRat (fun _ _ _ H=>qMul y1 z0 (RatP.blk (H.oz 11)) (anyV (H.f 5)) (anyV (H.f 8)) (Nat.le_trans (Nat.add_le_add ey1 ez0) (by decide))) ?_
 refine RunD.cO 10 softRat (fun _ _ _ H=>qSub (y0*z1) (y1*z0) (RatP.blk (q:=y0*z1) (H.o 10)) (anyV (H.o 10)) (anyV (H.o 11)) (Nat.le_trans (Nat.add_le_add k10 k11) (by decide))) ?_
 refine RunD.en ?_
 refine Run.cO 10 softRat (fun _ _ _ H=>qMul ((y0*z1)-(y1*z0)) x3 (RatP.blk (q:=(y0*z1)-(y1*z0)) (H.o 10)) (anyV (H.o 10)) (anyV (H.f 3)) (Nat.le_trans (Nat.add_le_add k12 ex3) (by decide))) ?_
 refine Run.cO 5 softRat (fun _ _ _ H=>qAdd (((0:Rat)+(((y1*z3)-(y3*z1))*x0))+(((y3*z0)-(y0*z3))*x1)) (((y0*z1)-(y1*z0))*x3) (RatP.blk (q:=((0:Rat)+(((y1*z3)-(y3*z1))*x0))+(((y3*z0)-(y0*z3))*x1)) (H.o 5)) (anyV (H.o 5)) (anyV (H.o 10)) (Nat.le_trans (Nat.add_le_add k9 k13) (by decide))) ?_
 exact Run.rN (φ:=RatP (mn3 x0 x1 x3 y0 y1 y3 z0 z1 z3)) 5 (fun _ _ _ H=>⟨H.ow 5,VPe (φ:=RatP) (rfl) (H.o 5)⟩)
theorem acm3 {w1_0 w1_1 w1_2 w1_3 w1_4 w1_5 w1_6 w1_7 w1_8 w1_9 w1_10 w1_11:Value} {b1:Nat} (x0:Rat) (x1:Rat) (x2:Rat) (x3:Rat) (y0:Rat) (y1:Rat) (y2:Rat) (y3:Rat) (z0:Rat) (z1:Rat) (z2:Rat) (z3:Rat) (B1:W.heap[b1]? = some (.cells #[w1_0,w1_1,w1_2,w1_3,w1_4,w1_5,w1_6,w1_7,w1_8,w1_9,w1_10,w1_11] 299 (0,0))) (hw1_0:(RatP x0).p S w1_0 W) (hw1_1:(RatP x1).p S w1_1 W) (hw1_2:(RatP x2).p S w1_2 W) (hw1_3:(RatP x3).p S w1_3 W) (hw1_4:(RatP y0).p S w1_4 W) (hw1_5:(RatP y1).p S w1_5 W) (hw1_6:(RatP y2).p S w1_6 W) (hw1_7:(RatP y3).p S w1_7 W) (hw1_8:(RatP z0).p S w1_8 W) (hw1_9:(RatP z1).p S w1_9 W) (hw1_10:(RatP z2).p S w1_10 W) (hw1_11:(RatP z3).p S w1_11 W) (p0:ht x0+ht x1+ht x2+ht x3≤40000) (p1:ht y0+ht y1+ht y2+ht y3≤40000) (p2:ht z0+ht z1+ht z2+ht z3≤40000):Calls Tryz.prog 228 #[.int .i64 3,.pointer (some ⟨b1,0,none⟩)] W (Ret (RatP (-(mn3 x0 x1 x2 y0 y1 y2 z0 z1 z2))) Z0 W):=by
 obtain ⟨ex0,ex1,ex2,ex3,ey0,ey1,ey2,ey3,ez0,ez1,ez2,ez3⟩:ht x0≤40000∧ht x1≤40000∧ht x2≤40000∧ht x3≤40000∧ht y0≤40000∧ht y1≤40000∧ht y2≤40000∧ht y3≤40000∧ht z0≤40000∧ht z1≤40000∧ht z2≤40000∧ht z3≤40000:=by omega
 have k0:=hb_mul ey1 ez2 80000
 have k1:=hb_mul ey2 ez1 80000
 have k2:=hb_sub k0 k1 160000
 have k3:=hb_mul k2 ex0 200000
 have k4:=hb_add (Nat.le_of_eq ht_zero) k3 200002
 have k5:=hb_mul ey2 ez0 80000
 have k6:=hb_mul ey0 ez2 80000
 have k7:=hb_sub k5 k6 160000
 have k8:=hb_mul k7 ex1 200000
 have k9:=hb_add k4 k8 400002
 have k10:=hb_mul ey0 ez1 80000
 have k11:=hb_mul ey1 ez0 80000
 have k12:=hb_sub k10 k11 160000
 have k13:=hb_mul k12 ex2 200000
 have k14:=hb_add k9 k13 600002
 have k15:=hb_neg k14
 refine Run.goP (S:=S) ((Pack.nil.k (.int .i64 3) [] (.s (.o (.c (.int .i64 3))))).bv B1 none 12 (AllF.rat hw1_0 (AllF.rat hw1_1 (AllF.rat hw1_2 (AllF.rat hw1_3 (AllF.rat hw1_4 (AllF.rat hw1_5 (AllF.rat hw1_6 (AllF.rat hw1_7 (AllF.rat hw1_8 (AllF.rat hw1_9 (AllF.rat hw1_10 (AllF.rat hw1_11 AllF.z))))))))))))) Tryz.func228 rfl ?_
 refine Run.a0 3 75 1 (fun cp1=>?_)
 refine Run.ap 75 2 1 cp1 3 (fun cp2=>?_)
 refine Run.ap 75 2 2 cp2 4 (fun cp3=>?_)
 refine Run.dr ?_
 refine RunD.en ?_
 refine Run.dr ?_
 refine RunD.cO 6 softRat (fun _ _ _ H=>qMul y1 z2 (RatP.blk (H.oz 6)) (anyV (H.f 5)) (anyV (H.f 10)) (Nat.le_trans (Nat.add_le_add ey1 ez2) (by decide))) ?_
 refine RunD.en ?_
 refine Run.dr ?_
 refine RunD.cO 7 softRat (fun _ _ _ H=>qMul y2 z1 (RatP.blk (H.oz 7)) (anyV (H.f 6)) (anyV (H.f 9)) (Nat.le_trans (Nat.add_le_add ey2 ez1) (by decide))) ?_
 refine RunD.cO 6 softRat (fun _ _ _ H=>qSub (y1*z2) (y2*z1) (RatP.blk (q:=y1*z2) (H.o 6)) (anyV (H.o 6)) (anyV (H.o 7)) (Nat.le_trans (Nat.add_le_add k0 k1) (by decide))) ?_
 refine RunD.en ?_
 refine Run.cO 6 softRat (fun _ _ _ H=>qMul ((y1*z2)-(y2*z1)) x0 (RatP.blk (q:=(y1*z2)-(y2*z1)) (H.o 6)) (anyV (H.o 6)) (anyV (H.f 0)) (Nat.le_trans (Nat.add_le_add k2 ex0) (by decide))) ?_
 refine Run.cO 5 softRat (fun _ _ _ H=>qAdd (0:Rat) (((y1*z2)-(y2*z1))*x0) (RatP.blk (H.oz 5)) (anyV (H.oz 5)) (anyV (H.o 6)) (Nat.le_trans (Nat.add_le_add (Nat.le_of_eq ht_zero) k3) (by decide))) ?_
 refine Run.dr ?_
 refine RunD.en ?_
 refine Run.dr ?_
 refine RunD.cO 8 softRat (fun _ _ _ H=>qMul y2 z0 (RatP.blk (H.oz 8)) (anyV (H.f 6)) (anyV (H.f 8)) (Nat.le_trans (Nat.add_le_add ey2 ez0) (by decide))) ?_
 refine RunD.en ?_
 refine Run.dr ?_
 refine RunD.cO 9 softRat (fun _ _ _ H=>qMul y0 z2 (RatP.blk (H.oz 9)) (anyV (H.f 4)) (anyV (H.f 10)) (Nat.le_trans (Nat.add_le_add ey0 ez2) (by decide))) ?_
 refine RunD.cO 8 softRat (fun _ _ _ H=>qSub (y2*z0) (y0*z2) (RatP.blk (q:=y2*z0) (H.o 8)) (anyV (H.o 8)) (anyV (H.o 9)) (Nat.le_trans (Nat.add_le_add k5 k6) (by decide))) ?_
 refine RunD.en ?_
 refine Run.cO 8 softRat (fun _ _ _ H=>qMul ((y2*z0)-(y0*z2)) x1 (RatP.blk (q:=(y2*z0)-(y0*z2)) (H.o 8)) (anyV (H.o 8)) (anyV (H.f 1)) (Nat.le_trans (Nat.add_le_add k7 ex1) (by decide))) ?_
 refine Run.cO 5 softRat (fun _ _ _ H=>qAdd ((0:Rat)+(((y1*z2)-(y2*z1))*x0)) (((y2*z0)-(y0*z2))*x1) (RatP.blk (q:=(0:Rat)+(((y1*z2)-(y2*z1))*x0)) (H.o 5)) (anyV (H.o 5)) (anyV (H.o 8)) (Nat.le_trans (Nat.add_le_add k4 k8) (by decide))) ?_
 refine Run.dr ?_
 refine RunD.en ?_
 refine Run.dr ?_
 refine RunD.cO 10 softRat (fun _ _ _ H=>qMul y0 z1 (RatP.blk (H.oz 10)) (anyV (H.f 4)) (anyV (H.f 9)) (Nat.le_trans (Nat.add_le_add ey0 ez1) (by decide))) ?_
 refine RunD.en ?_
 refine Run.dr ?_
 refine RunD.cO 11 softRat (fun _ _ _ H=>qMul y1 z0 (RatP.blk (H.oz 11)) (anyV (H.f 5)) (anyV (H.f 8)) (Nat.le_trans (Nat.add_le_add ey1 ez0) (by decide))) ?_
 refine RunD.cO 10 softRat (fun _ _ _ H=>qSub (y0*z1) (y1*z0) (RatP.blk (q:=y0*z1) (H.o 10)) (anyV (H.o 10)) (anyV (H.o 11)) (Nat.le_trans (Nat.add_le_add k10 k11) (by decide))) ?_
 refine RunD.en ?_
 refine Run.cO 10 softRat (fun _ _ _ H=>qMul ((y0*z1)-(y1*z0)) x2 (RatP.blk (q:=(y0*z1)-(y1*z0)) (H.o 10)) (anyV (H.o 10)) (anyV (H.f 2)) (Nat.le_trans (Nat.add_le_add k12 ex2) (by decide))) ?_
 refine Run.cO 5 softRat (fun _ _ _ H=>qAdd (((0:Rat)+(((y1*z2)-(y2*z1))*x0))+(((y2*z0)-(y0*z2))*x1)) (((y0*z1)-(y1*z0))*x2) (RatP.blk (q:=((0:Rat)+(((y1*z2)-(y2*z1))*x0))+(((y2*z0)-(y0*z2))*x1)) (H.o 5)) (anyV (H.o 5)) (anyV (H.o 10)) (Nat.le_trans (Nat.add_le_add k9 k13) (by decide))) ?_
 refine Run.cO 5 softRat (fun _ _ _ H=>qNeg ((((0:Rat)+(((y1*z2)-(y2*z1))*x0))+(((y2*z0)-(y0*z2))*x1))+(((y0*z1)-(y1*z0))*x2)) (RatP.blk (q:=(((0:Rat)+(((y1*z2)-(y2*z1))*x0))+(((y2*z0)-(y0*z2))*x1))+(((y0*z1)-(y1*z0))*x2)) (H.o 5)) (anyV (H.o 5)) (Nat.le_trans k14 (by decide))) ?_
 exact Run.rN (φ:=RatP (-(mn3 x0 x1 x2 y0 y1 y2 z0 z1 z2))) 5 (fun _ _ _ H=>⟨H.ow 5,VPe (φ:=RatP) (rfl) (H.o 5)⟩)
theorem acr {w0_0 w0_1 w0_2 w0_3 w0_4 w0_5 w0_6 w0_7 w0_8 w0_9 w0_10 w0_11:Value} {b0:Nat} (n0:Nat) (d0:Ci) (d1:Ci) (d2:Ci) (B0:∃ r:List Value,W.heap[b0]? = some (.cells ⟨[w0_0,w0_1,w0_2,w0_3,w0_4,w0_5,w0_6,w0_7,w0_8,w0_9,w0_10,w0_11]++r⟩ 180 (0,0))) (t0_0:(RingP d0).p S (.agg #[w0_0,w0_1,w0_2,w0_3]) W) (t0_1:(RingP d1).p S (.agg #[w0_4,w0_5,w0_6,w0_7]) W) (t0_2:(RingP d2).p S (.agg #[w0_8,w0_9,w0_10,w0_11]) W) (p0:ht d0.a+ht d0.b.re+ht d0.b.im+ht d0.c≤40000) (p1:ht d1.a+ht d1.b.re+ht d1.b.im+ht d1.c≤40000) (p2:ht d2.a+ht d2.b.re+ht d2.b.im+ht d2.c≤40000):Calls Tryz.prog 115 #[.slice (some ⟨b0,0,none⟩) 3 (n0+3)] W (Ret (RingP (Ci.acr d0 d1 d2)) S W):=by
 obtain ⟨ead0,ebd0,ecd0⟩:=hb_ci p0
 obtain ⟨ead1,ebd1,ecd1⟩:=hb_ci p1
 obtain ⟨ead2,ebd2,ecd2⟩:=hb_ci p2
 have k0:=mn3_hb ead0 ecd0 ebd0.2 ead1 ecd1 ebd1.2 ead2 ecd2 ebd2.2
 have k1:=hb_neg (mn3_hb ead0 ecd0 ebd0.1 ead1 ecd1 ebd1.1 ead2 ecd2 ebd2.1)
 have k2:=HB.mul (HB.two (z:=Cx.mk (- (mn3 d0.a d0.c d0.b.re d1.a d1.c d1.b.re d2.a d2.c d2.b.re)) 0) k1 (Nat.le_of_eq ht_zero) 600002) (⟨by decide,by decide⟩:HB (Cx.ofInt 0 1) 3) 1200010
 have k3:=HB.add (HB.two (z:=Cx.mk (mn3 d0.a d0.c d0.b.im d1.a d1.c d1.b.im d2.a d2.c d2.b.im) 0) k0 (Nat.le_of_eq ht_zero) 600002) k2 1800012
 have k4:=hb_neg (mn3_hb ead0 ebd0.1 ebd0.2 ead1 ebd1.1 ebd1.2 ead2 ebd2.1 ebd2.2)
 have k5:=HB.scale k3 (by decide:ht (Rat.divInt (-1) (2))≤4) 1800016
 have k6:=mn3_hb ecd0 ebd0.1 ebd0.2 ecd1 ebd1.1 ebd1.2 ecd2 ebd2.1 ebd2.2
 refine Run.goP (S:=S) (Pack.nil.bm B0 3 (n0+3) 12 (AllF.app (ringCells t0_0) (AllF.app (ringCells t0_1) (ringCells t0_2)))) Tryz.func115 rfl ?_
 refine Run.cR sp2Rat (fun _ _ _ H=>eParts d0.b (NumP.mk (H.f 1) (H.f 2))) ?_
 refine Run.cR sp2Rat (fun _ _ _ H=>eParts d1.b (NumP.mk (H.f 5) (H.f 6))) ?_
 refine Run.cR sp2Rat (fun _ _ _ H=>eParts d2.b (NumP.mk (H.f 9) (H.f 10))) ?_
 refine Run.cR spRat (fun _ _ _ H=>qNewRat (-1) 2 (by decide) (by decide) (by decide) (by decide) (by decide)) ?_
 refine Run.cR spRat (fun _ _ _ H=>retZ (acm2 d0.a d0.c d0.b.re d0.b.im d1.a d1.c d1.b.re d1.b.im d2.a d2.c d2.b.re d2.b.im (H.b 2) (H.f 0) (H.f 3) (H.f 12) (H.f 13) (H.f 4) (H.f 7) (H.f 14) (H.f 15) (H.f 8) (H.f 11) (H.f 16) (H.f 17) (by omega) (by omega) (by omega))) ?_
 refine Run.cR spRat (fun _ _ _ H=>retZ (acm3 d0.a d0.c d0.b.re d0.b.im d1.a d1.c d1.b.re d1.b.im d2.a d2.c d2.b.re d2.b.im (H.b 2) (H.f 0) (H.f 3) (H.f 12) (H.f 13) (H.f 4) (H.f 7) (H.f 14) (H.f 15) (H.f 8) (H.f 11) (H.f 16) (H.f 17) (by omega) (by omega) (by omega))) ?_
 refine Run.cR spNum (fun _ _ _ H=>eReal (mn3 d0.a d0.c d0.b.im d1.a d1.c d1.b.im d2.a d2.c d2.b.im) (H.f 19)) ?_
 refine Run.cR spNum (fun _ _ _ H=>eReal (-(mn3 d0.a d0.c d0.b.re d1.a d1.c d1.b.re d2.a d2.c d2.b.re)) (H.f 20)) ?_
 refine Run.cR spNum (fun _ _ _ H=>eInt 0 1 (by decide) (by decide) (by decide) (by decide)) ?_
 refine Run.cR spNum (fun _ _ _ H=>eNMul (Cx.mk (-(mn3 d0.a d0.c d0.b.re d1.a d1.c d1.b.re d2.a d2.c d2.b.re)) 0) (Cx.ofInt 0 1) (NumP.mk (H.f 23) (H.f 24)) (NumP.mk (H.f 25) (H.f 26)) (Nat.le_trans (Nat.add_le_add (Nat.add_le_add (Nat.add_le_add k1 (Nat.le_of_eq ht_zero)) (⟨by decide,by decide⟩:HB (Cx.ofInt 0 1) 3).1) (⟨by decide,by decide⟩:HB (Cx.ofInt 0 1) 3).2) (by decide))) ?_
 refine Run.cR spNum (fun _ _ _ H=>eAdd (Cx.mk (mn3 d0.a d0.c d0.b.im d1.a d1.c d1.b.im d2.a d2.c d2.b.im) 0) ((Cx.mk (-(mn3 d0.a d0.c d0.b.re d1.a d1.c d1.b.re d2.a d2.c d2.b.re)) 0).mul (Cx.ofInt 0 1)) (NumP.mk (H.f 21) (H.f 22)) (NumP.mk (H.f 27) (H.f 28)) (Nat.le_trans (Nat.add_le_add (Nat.add_le_add (Nat.add_le_add k0 (Nat.le_of_eq ht_zero)) k2.1) k2.2) (by decide))) ?_
 refine Run.dr ?_
 refine RunD.cR spRat (fun _ _ _ H=>retZ (acm1 d0.a d0.c d0.b.re d0.b.im d1.a d1.c d1.b.re d1.b.im d2.a d2.c d2.b.re d2.b.im (H.b 2) (H.f 0) (H.f 3) (H.f 12) (H.f 13) (H.f 4) (H.f 7) (H.f 14) (H.f 15) (H.f 8) (H.f 11) (H.f 16) (H.f 17) (by omega) (by omega) (by omega))) ?_
 refine RunD.cR spNum (fun _ _ _ H=>eScale ((Cx.mk (mn3 d0.a d0.c d0.b.im d1.a d1.c d1.b.im d2.a d2.c d2.b.im) 0).add ((Cx.mk (-(mn3 d0.a d0.c d0.b.re d1.a d1.c d1.b.re d2.a d2.c d2.b.re)) 0).mul (Cx.ofInt 0 1))) (Rat.divInt (-1) 2) (NumP.mk (H.f 29) (H.f 30)) (RatP.n (H.f 18)) (Nat.le_trans (Nat.add_le_add (Nat.add_le_add k3.1 k3.2) (by decide:ht (Rat.divInt (-1) (2))≤4)) (by decide))) ?_
 refine RunD.cR spRat (fun _ _ _ H=>retZ (acm0 d0.a d0.c d0.b.re d0.b.im d1.a d1.c d1.b.re d1.b.im d2.a d2.c d2.b.re d2.b.im (H.b 2) (H.f 0) (H.f 3) (H.f 12) (H.f 13) (H.f 4) (H.f 7) (H.f 14) (H.f 15) (H.f 8) (H.f 11) (H.f 16) (H.f 17) (by omega) (by omega) (by omega))) ?_
 refine RunD.en ?_
 exact Run.rR (fun _ _ _ H=>VPe (φ:=RingP) (rfl) (RingP.mk (H.f 31) (H.f 32) (H.f 33) (H.f 34)))
theorem ahd {v0 v1:Value} (a:Ci) (b:Ci) (t0:(RingP a).p S v0 W) (t1:(RingP b).p S v1 W) (p0:ht a.a+ht a.b.re+ht a.b.im+ht a.c+(ht b.a+ht b.b.re+ht b.b.im+ht b.c)≤67108000):Calls Tryz.prog 117 #[v0,v1] W (RetV (.bool (a.ahd b)) W):=by
 have k0:=hc_sub a.b b.b
 refine Run.goP (S:=S) ((Pack.nil.s spRing t0).s spRing t1) Tryz.func117 rfl ?_
 refine Run.cR spNum (fun _ _ _ H=>eSub a.b b.b (NumP.mk (H.f 1) (H.f 2)) (NumP.mk (H.f 5) (H.f 6)) (by omega)) ?_
 refine Run.cR sp2Rat (fun _ _ _ H=>eParts (a.b.sub b.b) (NumP.mk (H.f 8) (H.f 9))) ?_
 refine Run.dr ?_
 refine RunD.cV [.int .i64 (icmp (a.a.num*(b.a.den:Int)) (b.a.num*(a.a.den:Int)))] kb (fun _ _ _ H=>qCmp a.a b.a (H.f 0) (H.f 4) (by omega)) ?_
 refine RunD.un (icmp (a.a.num*(b.a.den:Int)) (b.a.num*(a.a.den:Int))) (wneg _ _) ?_
 refine RunD.cV [.int .i64 (((a.b.sub b.b).re).num.sign)] kb (fun _ _ _ H=>qSign ((a.b.sub b.b).re) (H.f 10)) ?_
 refine RunD.cV [.int .i64 (((a.b.sub b.b).im).num.sign)] kb (fun _ _ _ H=>qSign ((a.b.sub b.b).im) (H.f 11)) ?_
 refine RunD.cV [.int .i64 (icmp (a.c.num*(b.c.den:Int)) (b.c.num*(a.c.den:Int)))] kb (fun _ _ _ H=>qCmp a.c b.c (H.f 3) (H.f 7) (by omega)) ?_
 refine RunD.en ?_
 refine Run.ic (-(icmp (a.a.num*(b.a.den:Int)) (b.a.num*(a.a.den:Int)))) 0 ((-(icmp (a.a.num*(b.a.den:Int)) (b.a.num*(a.a.den:Int)))) != 0) ?_
 refine (Bool.eq_false_or_eq_true ((-(icmp (a.a.num*(b.a.den:Int)) (b.a.num*(a.a.den:Int)))) != 0)).elim (fun c1=>?_) (fun c1=>?_)
 · refine Run.kn c1 ?_
   refine Run.ic (-(icmp (a.a.num*(b.a.den:Int)) (b.a.num*(a.a.den:Int)))) 0 (decide ((-(icmp (a.a.num*(b.a.den:Int)) (b.a.num*(a.a.den:Int))))<0)) ?_
   exact Run.rV (V' := .bool (decide ((-(icmp (a.a.num*(b.a.den:Int)) (b.a.num*(a.a.den:Int))))<0))) ((congrArg Value.bool (by simp [Ci.ahd,fstN,c1])))
 · refine Run.kn c1 ?_
   refine Run.ic (((a.b.sub b.b).re).num.sign) 0 ((((a.b.sub b.b).re).num.sign) != 0) ?_
   refine (Bool.eq_false_or_eq_true ((((a.b.sub b.b).re).num.sign) != 0)).elim (fun c2=>?_) (fun c2=>?_)
   · refine Run.kn c2 ?_
     refine Run.ic (((a.b.sub b.b).re).num.sign) 0 (decide ((((a.b.sub b.b).re).num.sign)<0)) ?_
     exact Run.rV (V' := .bool (decide ((((a.b.sub b.b).re).num.sign)<0))) ((congrArg Value.bool (by simp [Ci.ahd,fstN,c1,c2])))
   · refine Run.kn c2 ?_
     refine Run.ic (((a.b.sub b.b).im).num.sign) 0 ((((a.b.sub b.b).im).num.sign) != 0) ?_
     refine (Bool.eq_false_or_eq_true ((((a.b.sub b.b).im).num.sign) != 0)).elim (fun c3=>?_) (fun c3=>?_)
     · refine Run.kn c3 ?_
       refine Run.ic (((a.b.sub b.b).im).num.sign) 0 (decide ((((a.b.sub b.b).im).num.sign)<0)) ?_
       exact Run.rV (V' := .bool (decide ((((a.b.sub b.b).im).num.sign)<0))) ((congrArg Value.bool (by simp [Ci.ahd,fstN,c1,c2,c3])))
     · refine Run.kn c3 ?_
       refine Run.ic (icmp (a.c.num*(b.c.den:Int)) (b.c.num*(a.c.den:Int))) 0 ((icmp (a.c.num*(b.c.den:Int)) (b.c.num*(a.c.den:Int))) != 0) ?_
       refine (Bool.eq_false_or_eq_true ((icmp (a.c.num*(b.c.den:Int)) (b.c.num*(a.c.den:Int))) != 0)).elim (fun c4=>?_) (fun c4=>?_)
       · refine Run.kn c4 ?_
         refine Run.ic (icmp (a.c.num*(b.c.den:Int)) (b.c.num*(a.c.den:Int))) 0 (decide ((icmp (a.c.num*(b.c.den:Int)) (b.c.num*(a.c.den:Int)))<0)) ?_
         exact Run.rV (V' := .bool (decide ((icmp (a.c.num*(b.c.den:Int)) (b.c.num*(a.c.den:Int)))<0))) ((congrArg Value.bool (by simp [Ci.ahd,fstN,c1,c2,c3,c4])))
       · refine Run.kn c4 ?_
         exact Run.rV (V' := .bool false) ((congrArg Value.bool (by simp [Ci.ahd,fstN,c1,c2,c3,c4])))
theorem fo4 (a:Ci) (b:Ci) (c:Ci) (p0:dsOk (rci a)=true) (p1:dsOk (rci b)=true) (p2:dsOk (rci c)=true) (p3:Ci.all3 a b c=true):Calls Tryz.prog 17 #[ciV a,ciV b,ciV c] W (RetV (.tuple #[rciV (Ci.f4P a b c),rciV (Ci.f4Q a b c),.int .i64 (Ci.f4E a b c)]) W):=by
 have f0:=cifits_ht (dsOk_c p0).1
 have f1:=cifits_ht (dsOk_c p1).1
 have f2:=cifits_ht (dsOk_c p2).1
 obtain ⟨g1,g2,g3⟩:=f4_ht f0 f1 f2
 have g4:=acr_ht f0 f1 f2
 have g5:=plus_ht a b
 have g6:=out_hs (Ci.acr a b c)
 unfold Ci.f4s at g1
 unfold Ci.f4x Ci.f4s at g2
 unfold Ci.f4y Ci.f4s at g3
 refine Run.goP (S:=Z0) (((Pack.nil.k (ciV a) (ciC a).toList (.s (.agg (ks 0 16)))).k (ciV b) (ciC b).toList (.s (.agg (ks 0 16)))).k (ciV c) (ciC c).toList (.s (.agg (ks 0 16)))) Tryz.func17 rfl ?_
 refine Run.cB (n:=3) (T:=180) (φs:=ringF [a,b,c]) (fun _ _ _ H=>pl3Y 29 a b c (H.b 5) p0 p1 p2) (fun cp1=>?_)
 refine Run.cV [.bool ([b.touch a].all id&&[c.touch a,c.touch b].all id)] kb (fun _ _ _ H=>tch3 cp1 a b c (H.br 6) (RingP.mk (H.f 0) (H.f 1) (H.f 2) (H.f 3)) (RingP.mk (H.f 4) (H.f 5) (H.f 6) (H.f 7)) (RingP.mk (H.f 8) (H.f 9) (H.f 10) (H.f 11)) (by omega) (by omega) (by omega)) ?_
 refine Run.kn p3 ?_
 refine Run.dr ?_
 refine RunD.cR spRing (fun _ _ _ H=>dsPlus a b (RingP.mk (H.f 0) (H.f 1) (H.f 2) (H.f 3)) (RingP.mk (H.f 4) (H.f 5) (H.f 6) (H.f 7)) (by omega)) ?_
 refine RunD.cR spRing (fun _ _ _ H=>dsPlus (a.plus b) c (RingP.mk (H.f 12) (H.f 13) (H.f 14) (H.f 15)) (RingP.mk (H.f 8) (H.f 9) (H.f 10) (H.f 11)) (by omega)) ?_
 refine RunD.cR spRing (fun _ _ _ H=>acr cp1 a b c (H.br 6) (RingP.mk (H.f 0) (H.f 1) (H.f 2) (H.f 3)) (RingP.mk (H.f 4) (H.f 5) (H.f 6) (H.f 7)) (RingP.mk (H.f 8) (H.f 9) (H.f 10) (H.f 11)) (by omega) (by omega) (by omega)) ?_
 refine RunD.en ?_
 refine Run.dr ?_
 refine RunD.cR spRing (fun _ _ _ H=>dsPlus ((a.plus b).plus c) (Ci.acr a b c) (RingP.mk (H.f 16) (H.f 17) (H.f 18) (H.f 19)) (RingP.mk (H.f 20) (H.f 21) (H.f 22) (H.f 23)) (by omega)) ?_
 refine RunD.cR spRing (fun _ _ _ H=>dsOut (Ci.acr a b c) (RingP.mk (H.f 20) (H.f 21) (H.f 22) (H.f 23)) (by omega)) ?_
 refine RunD.cR spRing (fun _ _ _ H=>dsPlus ((a.plus b).plus c) ((Ci.acr a b c).out) (RingP.mk (H.f 16) (H.f 17) (H.f 18) (H.f 19)) (RingP.mk (H.f 28) (H.f 29) (H.f 30) (H.f 31)) (by omega)) ?_
 refine RunD.en ?_
 refine Run.cV [.bool ((((a.plus b).plus c).plus ((Ci.acr a b c).out)).ahd (((a.plus b).plus c).plus (Ci.acr a b c)))] kb (fun _ _ _ H=>ahd (((a.plus b).plus c).plus ((Ci.acr a b c).out)) (((a.plus b).plus c).plus (Ci.acr a b c)) (RingP.mk (H.f 32) (H.f 33) (H.f 34) (H.f 35)) (RingP.mk (H.f 24) (H.f 25) (H.f 26) (H.f 27)) (by omega)) ?_
 refine (Bool.eq_false_or_eq_true ((((a.plus b).plus c).plus ((Ci.acr a b c).out)).ahd (((a.plus b).plus c).plus (Ci.acr a b c)))).elim (fun c1=>?_) (fun c1=>?_)
 · refine Run.kn c1 ?_
   refine Run.cV ((rciC (cicut (((a.plus b).plus c).plus ((Ci.acr a b c).out)))).toList++[.int .i64 (cierr (((a.plus b).plus c).plus ((Ci.acr a b c).out)))]) (.tup [.agg (ks 0 16),.o (.k 16)]) (fun _ _ _ H=>dsTold (((a.plus b).plus c).plus ((Ci.acr a b c).out)) (RingP.mk (H.f 32) (H.f 33) (H.f 34) (H.f 35)) (by omega)) ?_
   refine Run.cV ((rciC (cicut (((a.plus b).plus c).plus (Ci.acr a b c)))).toList++[.int .i64 (cierr (((a.plus b).plus c).plus (Ci.acr a b c)))]) (.tup [.agg (ks 0 16),.o (.k 16)]) (fun _ _ _ H=>dsTold (((a.plus b).plus c).plus (Ci.acr a b c)) (RingP.mk (H.f 24) (H.f 25) (H.f 26) (H.f 27)) (by omega)) ?_
   refine Run.ic (cierr (((a.plus b).plus c).plus ((Ci.acr a b c).out))) 0 ((cierr (((a.plus b).plus c).plus ((Ci.acr a b c).out))) != 0) ?_
   refine (Bool.eq_false_or_eq_true ((cierr (((a.plus b).plus c).plus ((Ci.acr a b c).out))) != 0)).elim (fun c2=>?_) (fun c2=>?_)
   · refine Run.kn c2 ?_
     exact Run.rV (fo_1 c1 c2)
   · refine Run.kn c2 ?_
     refine Run.ic (cierr (((a.plus b).plus c).plus (Ci.acr a b c))) 0 ((cierr (((a.plus b).plus c).plus (Ci.acr a b c))) != 0) ?_
     refine (Bool.eq_false_or_eq_true ((cierr (((a.plus b).plus c).plus (Ci.acr a b c))) != 0)).elim (fun c3=>?_) (fun c3=>?_)
     · refine Run.kn c3 ?_
       exact Run.rV (fo_2 c1 c3)
     · refine Run.kn c3 ?_
       refine Run.dr ?_
       refine RunD.en ?_
       exact Run.rV (fo_3 c1 c2 c3)
 · refine Run.kn c1 ?_
   refine Run.cV ((rciC (cicut (((a.plus b).plus c).plus (Ci.acr a b c)))).toList++[.int .i64 (cierr (((a.plus b).plus c).plus (Ci.acr a b c)))]) (.tup [.agg (ks 0 16),.o (.k 16)]) (fun _ _ _ H=>dsTold (((a.plus b).plus c).plus (Ci.acr a b c)) (RingP.mk (H.f 24) (H.f 25) (H.f 26) (H.f 27)) (by omega)) ?_
   refine Run.cV ((rciC (cicut (((a.plus b).plus c).plus ((Ci.acr a b c).out)))).toList++[.int .i64 (cierr (((a.plus b).plus c).plus ((Ci.acr a b c).out)))]) (.tup [.agg (ks 0 16),.o (.k 16)]) (fun _ _ _ H=>dsTold (((a.plus b).plus c).plus ((Ci.acr a b c).out)) (RingP.mk (H.f 32) (H.f 33) (H.f 34) (H.f 35)) (by omega)) ?_
   refine Run.ic (cierr (((a.plus b).plus c).plus (Ci.acr a b c))) 0 ((cierr (((a.plus b).plus c).plus (Ci.acr a b c))) != 0) ?_
   refine (Bool.eq_false_or_eq_true ((cierr (((a.plus b).plus c).plus (Ci.acr a b c))) != 0)).elim (fun c4=>?_) (fun c4=>?_)
   · refine Run.kn c4 ?_
     exact Run.rV (fo_4 c1 c4)
   · refine Run.kn c4 ?_
     refine Run.ic (cierr (((a.plus b).plus c).plus ((Ci.acr a b c).out))) 0 ((cierr (((a.plus b).plus c).plus ((Ci.acr a b c).out))) != 0) ?_
     refine (Bool.eq_false_or_eq_true ((cierr (((a.plus b).plus c).plus ((Ci.acr a b c).out))) != 0)).elim (fun c5=>?_) (fun c5=>?_)
     · refine Run.kn c5 ?_
       exact Run.rV (fo_5 c1 c5)
     · refine Run.kn c5 ?_
       refine Run.dr ?_
       refine RunD.en ?_
       exact Run.rV (fo_6 c1 c4 c5)
theorem swp0 {w0_0 w0_1 w0_2 w0_3 w0_4 w0_5 w0_6 w0_7 w0_8 w0_9 w0_10 w0_11 w0_12 w0_13 w0_14 w0_15:Value} {b0:Nat} (n0:Nat) (d0:Ci) (d1:Ci) (d2:Ci) (d3:Ci) (B0:∃ r:List Value,W.heap[b0]? = some (.cells ⟨[w0_0,w0_1,w0_2,w0_3,w0_4,w0_5,w0_6,w0_7,w0_8,w0_9,w0_10,w0_11,w0_12,w0_13,w0_14,w0_15]++r⟩ 180 (0,0))) (t0_0:(RingP d0).p S (.agg #[w0_0,w0_1,w0_2,w0_3]) W) (t0_1:(RingP d1).p S (.agg #[w0_4,w0_5,w0_6,w0_7]) W) (t0_2:(RingP d2).p S (.agg #[w0_8,w0_9,w0_10,w0_11]) W) (t0_3:(RingP d3).p S (.agg #[w0_12,w0_13,w0_14,w0_15]) W) (p0:ht d0.a+ht d0.b.re+ht d0.b.im+ht d0.c≤1000000) (p1:ht d1.a+ht d1.b.re+ht d1.b.im+ht d1.c≤1000000) (p2:ht d2.a+ht d2.b.re+ht d2.b.im+ht d2.c≤1000000) (p3:ht d3.a+ht d3.b.re+ht d3.b.im+ht d3.c≤1000000):Calls Tryz.prog 174 #[.slice (some ⟨b0,0,none⟩) 4 (n0+4),.int .i64 0] W (Ret (RingP (Ci.swp d0 d1 d2 d3 d0)) S W):=by
 have h1:=plus_ht d0 d1
 have h2:=plus_ht (d0.plus d1) d2
 have h3:=plus_ht ((d0.plus d1).plus d2) d3
 have h4:=out_hs d0
 have h5:=plus_ht (((d0.plus d1).plus d2).plus d3) d0.out
 have h6:=plus_ht ((((d0.plus d1).plus d2).plus d3).plus d0.out) ((((d0.plus d1).plus d2).plus d3).plus d0.out)
 refine Run.goP (S:=S) ((Pack.nil.bm B0 4 (n0+4) 16 (AllF.app (ringCells t0_0) (AllF.app (ringCells t0_1) (AllF.app (ringCells t0_2) (ringCells t0_3))))).k (.int .i64 0) [] (.s (.o (.c (.int .i64 0))))) Tryz.func174 rfl ?_
 refine Run.dr ?_
 refine RunD.cR spRing (fun _ _ _ H=>dsPlus d0 d1 (RingP.mk (H.f 0) (H.f 1) (H.f 2) (H.f 3)) (RingP.mk (H.f 4) (H.f 5) (H.f 6) (H.f 7)) (by omega)) ?_
 refine RunD.cR spRing (fun _ _ _ H=>dsPlus (d0.plus d1) d2 (RingP.mk (H.f 16) (H.f 17) (H.f 18) (H.f 19)) (RingP.mk (H.f 8) (H.f 9) (H.f 10) (H.f 11)) (by omega)) ?_
 refine RunD.cR spRing (fun _ _ _ H=>dsPlus ((d0.plus d1).plus d2) d3 (RingP.mk (H.f 20) (H.f 21) (H.f 22) (H.f 23)) (RingP.mk (H.f 12) (H.f 13) (H.f 14) (H.f 15)) (by omega)) ?_
 refine RunD.cR spRing (fun _ _ _ H=>dsOut d0 (RingP.mk (H.f 0) (H.f 1) (H.f 2) (H.f 3)) (by omega)) ?_
 refine RunD.cR spRing (fun _ _ _ H=>dsPlus (((d0.plus d1).plus d2).plus d3) d0.out (RingP.mk (H.f 24) (H.f 25) (H.f 26) (H.f 27)) (RingP.mk (H.f 28) (H.f 29) (H.f 30) (H.f 31)) (by omega)) ?_
 refine RunD.en ?_
 refine Run.dr ?_
 refine RunD.cR spRing (fun _ _ _ H=>dsPlus ((((d0.plus d1).plus d2).plus d3).plus d0.out) ((((d0.plus d1).plus d2).plus d3).plus d0.out) (RingP.mk (H.f 32) (H.f 33) (H.f 34) (H.f 35)) (RingP.mk (H.f 32) (H.f 33) (H.f 34) (H.f 35)) (by omega)) ?_
 refine RunD.cR spRing (fun _ _ _ H=>dsOut d0 (RingP.mk (H.f 0) (H.f 1) (H.f 2) (H.f 3)) (by omega)) ?_
 refine RunD.cR spRing (fun _ _ _ H=>dsPlus (((((d0.plus d1).plus d2).plus d3).plus d0.out).plus ((((d0.plus d1).plus d2).plus d3).plus d0.out)) d0.out (RingP.mk (H.f 36) (H.f 37) (H.f 38) (H.f 39)) (RingP.mk (H.f 40) (H.f 41) (H.f 42) (H.f 43)) (by omega)) ?_
 refine RunD.en ?_
 exact Run.rR (fun _ _ _ H=>VPe (φ:=RingP) (rfl) (RingP.mk (H.f 44) (H.f 45) (H.f 46) (H.f 47)))
theorem sw1 (i:Int):Calls Tryz.prog 173 #[.int .i64 i] W (RetV (.bool ((decide (i<0))||(decide (3<i)))) W):=by
 refine Run.goP (S:=Z0) (Pack.nil.k (.int .i64 i) [.int .i64 i] kb) Tryz.func173 rfl ?_
 refine Run.ic i 0 (decide (i<0)) ?_
 refine (Bool.eq_false_or_eq_true (decide (i<0))).elim (fun c1=>?_) (fun c1=>?_)
 · refine Run.kn c1 ?_
   exact Run.rV (V' := .bool true) ((congrArg Value.bool (by simp [c1])))
 · refine Run.kn c1 ?_
   refine Run.ic i 3 (decide (3<i)) ?_
   exact Run.rV (V' := .bool (decide (3<i))) ((congrArg Value.bool (by simp [c1])))
theorem ii1 {b0:Nat} (T0:TypeId) (i:Int) (B0:W.heap[b0]? = some (.cells (#[.int .i64 i]) T0 (0,0))):Calls Tryz.prog 248 #[.slice (some ⟨b0,0,none⟩) 1 1,.func (.func 173) #[] #[]] W (RetV (.int .i64 (idxF [!((decide (i<0))||(decide (3<i)))] 0)) W):=by
 refine Run.goP (S:=Z0) ((Pack.nil.b B0 (some 1) 1).k (.func (.func 173) #[] #[]) [] (.s (.o (.fn 173 [])))) Tryz.func248 rfl ?_
 refine Run.cV [.bool ((decide (i<0))||(decide (3<i)))] kb (fun _ _ _ H=>sw1 i) ?_
 refine (Bool.eq_false_or_eq_true ((decide (i<0))||(decide (3<i)))).elim (fun c1=>?_) (fun c1=>?_)
 · refine Run.kn c1 ?_
   exact Run.rV (V' := .int .i64 (0)) ((congrArg (Value.int .i64) (by simp only [idxF,c1];rfl)))
 · refine Run.kn c1 ?_
   exact Run.rV (V' := .int .i64 (-1)) ((congrArg (Value.int .i64) (by simp only [idxF,c1];rfl)))
theorem ci1 {b0:Nat} (T0:TypeId) (i:Int) (B0:W.heap[b0]? = some (.cells (#[.int .i64 i]) T0 (0,0))):Calls Tryz.prog 172 #[.slice (some ⟨b0,0,none⟩) 1 1,.func (.func 173) #[] #[]] W (RetV (.bool ((decide (i<0))||(decide (3<i)))) W):=by
 refine Run.goP (S:=Z0) ((Pack.nil.b B0 (some 1) 1).k (.func (.func 173) #[] #[]) [] (.s (.o (.fn 173 [])))) Tryz.func172 rfl ?_
 refine Run.cV [.int .i64 (idxF [!((decide (i<0))||(decide (3<i)))] 0)] kb (fun _ _ _ H=>ii1 T0 i (H.b 0)) ?_
 refine Run.ic (idxF [!((decide (i<0))||(decide (3<i)))] 0) 0 (decide (0≤(idxF [!((decide (i<0))||(decide (3<i)))] 0))) ?_
 exact Run.rV ((congrArg Value.bool (ci1_eq _)))
theorem frY (d0:Ci) (d1:Ci) (d2:Ci) (d3:Ci) (p0:dsOk (rci d0)=true) (p1:dsOk (rci d1)=true) (p2:dsOk (rci d2)=true) (p3:dsOk (rci d3)=true) (p4:Ci.all4 d0 d1 d2 d3=true):Calls Tryz.prog 171 #[.agg ⟨(ciC d0).toList++(ciC d1).toList++(ciC d2).toList++(ciC d3).toList⟩] W (RetB 180 4 (ringF [d0,d1,d2,d3]) (.int .i64 0) S W):=by
 have f0:=cifits_ht (dsOk_c p0).1
 have f1:=cifits_ht (dsOk_c p1).1
 have f2:=cifits_ht (dsOk_c p2).1
 have f3:=cifits_ht (dsOk_c p3).1
 refine Run.goP (S:=S) (Pack.nil.k (.agg ⟨(ciC d0).toList++(ciC d1).toList++(ciC d2).toList++(ciC d3).toList⟩) ((ciC d0).toList++(ciC d1).toList++(ciC d2).toList++(ciC d3).toList) (.s (.agg (ks 0 64)))) Tryz.func171 rfl ?_
 refine Run.cB (n:=4) (T:=180) (φs:=ringF [d0,d1,d2,d3]) (fun _ _ _ H=>pl4Y 74 d0 d1 d2 d3 (H.b 0) p0 p1 p2 p3) (fun cp1=>?_)
 refine Run.cV [.bool ([d1.touch d0].all id&&[d2.touch d0,d2.touch d1].all id&&[d3.touch d0,d3.touch d1,d3.touch d2].all id)] kb (fun _ _ _ H=>tch4 cp1 d0 d1 d2 d3 (H.br 1) (RingP.mk (H.f 0) (H.f 1) (H.f 2) (H.f 3)) (RingP.mk (H.f 4) (H.f 5) (H.f 6) (H.f 7)) (RingP.mk (H.f 8) (H.f 9) (H.f 10) (H.f 11)) (RingP.mk (H.f 12) (H.f 13) (H.f 14) (H.f 15)) (by omega) (by omega) (by omega) (by omega) (by omega) (by omega)) ?_
 refine Run.kn p4 ?_
 exact Run.rB 1 cp1
theorem sws0Y {b1:Nat} (d0:Ci) (d1:Ci) (d2:Ci) (d3:Ci) (T1:TypeId) (B1:W.heap[b1]? = some (.cells #[.int .i64 0] T1 (0,0))) (p0:dsOk (rci d0)=true) (p1:dsOk (rci d1)=true) (p2:dsOk (rci d2)=true) (p3:dsOk (rci d3)=true) (p4:Ci.all4 d0 d1 d2 d3=true) (p5:((cierr (Ci.swp d0 d1 d2 d3 d0)) != 0)=false):Calls Tryz.prog 44 #[.agg ⟨(ciC d0).toList++(ciC d1).toList++(ciC d2).toList++(ciC d3).toList⟩,.slice (some ⟨b1,0,none⟩) 1 1] W (RetV (.tuple #[.agg ⟨(rciC (cicut (Ci.swp d0 d1 d2 d3 d0))).toList++(ciC d1).toList++(ciC d2).toList++(ciC d3).toList⟩,.int .i64 0]) W):=by
 have f0:=cifits_ht (dsOk_c p0).1
 have f1:=cifits_ht (dsOk_c p1).1
 have f2:=cifits_ht (dsOk_c p2).1
 have f3:=cifits_ht (dsOk_c p3).1
 have g0:=swp_ht d0 d1 d2 d3 d0
 refine Run.goP (S:=Z0) ((Pack.nil.k (.agg ⟨(ciC d0).toList++(ciC d1).toList++(ciC d2).toList++(ciC d3).toList⟩) ((ciC d0).toList++(ciC d1).toList++(ciC d2).toList++(ciC d3).toList) (.s (.agg (ks 0 64)))).bc B1 (some 1)) Tryz.func44 rfl ?_
 refine Run.cB (n:=4) (T:=180) (φs:=ringF [d0,d1,d2,d3]) (fun _ _ _ H=>frY d0 d1 d2 d3 p0 p1 p2 p3 p4) (fun cp1=>?_)
 refine Run.cV [.bool ((decide (0<0))||(decide (3<0)))] kb (fun _ _ _ H=>ci1 T1 0 (H.b 0)) ?_
 refine Run.kn (b:=false) rfl ?_
 refine Run.cR spRing (fun _ _ _ H=>swp0 cp1 d0 d1 d2 d3 (H.br 3) (RingP.mk (H.f 0) (H.f 1) (H.f 2) (H.f 3)) (RingP.mk (H.f 4) (H.f 5) (H.f 6) (H.f 7)) (RingP.mk (H.f 8) (H.f 9) (H.f 10) (H.f 11)) (RingP.mk (H.f 12) (H.f 13) (H.f 14) (H.f 15)) (by omega) (by omega) (by omega) (by omega)) ?_
 refine Run.sm 3 0 ?_
 refine Run.cV ((rciC (cicut (Ci.swp d0 d1 d2 d3 d0))).toList++[.int .i64 (cierr (Ci.swp d0 d1 d2 d3 d0))]) (.tup [.agg (ks 0 16),.o (.k 16)]) (fun _ _ _ H=>dsTold (Ci.swp d0 d1 d2 d3 d0) (RingP.mk (H.f 16) (H.f 17) (H.f 18) (H.f 19)) (by omega)) ?_
 refine Run.ic (cierr (Ci.swp d0 d1 d2 d3 d0)) 0 ((cierr (Ci.swp d0 d1 d2 d3 d0)) != 0) ?_
 refine Run.kn p5 ?_
 exact Run.rV rfl
theorem sw0Y (d0:Ci) (d1:Ci) (d2:Ci) (d3:Ci) (p0:dsOk (rci d0)=true) (p1:dsOk (rci d1)=true) (p2:dsOk (rci d2)=true) (p3:dsOk (rci d3)=true) (p4:Ci.all4 d0 d1 d2 d3=true) (p5:((cierr (Ci.swp d0 d1 d2 d3 d0)) != 0)=false):Calls Tryz.prog 43 #[.agg ⟨(ciC d0).toList++(ciC d1).toList++(ciC d2).toList++(ciC d3).toList⟩,.int .i64 0] W (RetV (.tuple #[.agg ⟨(rciC (cicut (Ci.swp d0 d1 d2 d3 d0))).toList++(ciC d1).toList++(ciC d2).toList++(ciC d3).toList⟩,.int .i64 0]) W):=by
 refine Run.goP (S:=Z0) ((Pack.nil.k (.agg ⟨(ciC d0).toList++(ciC d1).toList++(ciC d2).toList++(ciC d3).toList⟩) ((ciC d0).toList++(ciC d1).toList++(ciC d2).toList++(ciC d3).toList) (.s (.agg (ks 0 64)))).k (.int .i64 0) [] (.s (.o (.c (.int .i64 0))))) Tryz.func43 rfl ?_
 refine Run.cV ((rciC (cicut (Ci.swp d0 d1 d2 d3 d0))).toList++(ciC d1).toList++(ciC d2).toList++(ciC d3).toList) (.tup [.agg (ks 0 64),.o (.c (.int .i64 0))]) (fun _ _ _ H=>sws0Y d0 d1 d2 d3 3 (H.b 2) p0 p1 p2 p3 p4 p5) ?_
 exact Run.rV rfl
theorem fCmp (x:Rat) (y:Rat) (p0:ht x+ht y≤68719476736):Calls Tryz.prog 182 #[fV x,fV y] W (RetV (.int .i64 (icmp (x.num*(y.den:Int)) (y.num*(x.den:Int)))) W):=by
 have n0:=hi_num x
 have n1:=hi_num y
 have n2:=hi_den x
 have n3:=hi_den y
 have m0:=hi_mul x.num (y.den:Int)
 have m1:=hi_mul y.num (x.den:Int)
 refine Run.goP (S:=Z0) ((Pack.nil.k (fV x) (fC x).toList (.s (.agg (ks 0 4)))).k (fV y) (fC y).toList (.s (.agg (ks 0 4)))) Tryz.func182 rfl ?_
 refine Run.dr ?_
 refine RunD.cV (wC (x.num*(y.den:Int))).toList (.s (.agg (ks 0 2))) (fun _ _ _ H=>rTimes x.num (y.den:Int) (by omega)) ?_
 refine RunD.cV (wC (y.num*(x.den:Int))).toList (.s (.agg (ks 0 2))) (fun _ _ _ H=>rTimes y.num (x.den:Int) (by omega)) ?_
 refine RunD.cV [.int .i64 (icmp (x.num*(y.den:Int)) (y.num*(x.den:Int)))] kb (fun _ _ _ H=>rCmp (x.num*(y.den:Int)) (y.num*(x.den:Int)) (by omega)) ?_
 refine RunD.en ?_
 exact Run.rV rfl
theorem fSmall (a:Int) (b:Int) (p0:-9223372036854775808≤a) (p1:a≤9223372036854775807) (p2:-9223372036854775808≤b) (p3:b≤9223372036854775807) (p4:b≠0):Calls Tryz.prog 125 #[.int .i64 a,.int .i64 b] W (RetV (fV (Rat.divInt a b)) W):=by
 have n0:=hi_i64 p0 p1
 have n1:=hi_i64 p2 p3
 refine Run.goP (S:=Z0) ((Pack.nil.k (.int .i64 a) [.int .i64 a] kb).k (.int .i64 b) [.int .i64 b] kb) Tryz.func125 rfl ?_
 refine Run.cV (wC a).toList (.s (.agg (ks 0 2))) (fun _ _ _ H=>rOf a p0 p1) ?_
 refine Run.cV (wC b).toList (.s (.agg (ks 0 2))) (fun _ _ _ H=>rOf b p2 p3) ?_
 refine Run.cV (fC (Rat.divInt a b)).toList (.s (.agg (ks 0 4))) (fun _ _ _ H=>fOf a b (by first|omega|exact p4) p4) ?_
 exact Run.rV rfl
end Go.Proofs.YtcpjdjnaipbieaaGreat
namespace Go.Proofs.YtcpjdjnaipbieaaGreat
open Go.RowKit Rgn
set_option maxRecDepth 100000
set_option maxHeartbeats 4000000
section
variable {w:World}
theorem eqin_dk (d:Nat) (r q:RCi):(Op.equalIn (d+5) 29 (rciV r) (rciV q)).run Tryz.prog w=.ok (decide (r=q)) w:=by
 have hf:=fields_of Tryz.underlying29
 have e:decide (r=q)=((decide (r.a=q.a)&&(decide (r.b=q.b)&&(decide (r.c=q.c)&&true)))):=by
  cases r;cases q;simp only [RCi.mk.injEq,Bool.and_true,decide_eq_decide,Bool.decide_and]
 rw [e]
 rw [run_equalIn_struct _ _ _ _ _ (by rw [hf];exact Tryz.underlying29) (by kernel_rfl),hf]
 refine eqf_step (a:=rfV r.a) (b:=rfV q.a) (by decide) (by go_simp) (by go_simp) (eqin_frac _ _ _) (eqf_step (a:=rgV r.b) (b:=rgV q.b) (by decide) (by go_simp) (by go_simp) (eqin_gauss _ _ _) (eqf_step (a:=rfV r.c) (b:=rfV q.c) (by decide) (by go_simp) (by go_simp) (eqin_frac _ _ _) (eqf_nil)))
end
theorem ex_eql_dk {ρ:Operand→Value} {o:Oper} {w:World} {k:TypeId} (a b:Operand) (ho:o.op=.binOp .eql 29 a b k) {r q:RCi} (ha:ρ a=rciV r) (hb:ρ b=rciV q) {c:Bool} (hc:decide (r=q)=c) :
  (execOp ρ o).run Tryz.prog w=.ok (.value (.bool (c))) w:=by
 subst hc
 unfold execOp
 simp only [ho,ha,hb,rciV,Sem.run_bind]
 rw [run_eqGuard_agg (P:=Tryz.prog) w .eql 29 a b (rciC r) (rciC q) (by kernel_rfl)]
 simp only [Result.andThen_ok,Sem.run_bind,run_eql_struct,eqin_dk 9995 r q]
 rfl
theorem ex_neq_dk {ρ:Operand→Value} {o:Oper} {w:World} {k:TypeId} (a b:Operand) (ho:o.op=.binOp .neq 29 a b k) {r q:RCi} (ha:ρ a=rciV r) (hb:ρ b=rciV q) {c:Bool} (hc:decide (r=q)=c) :
  (execOp ρ o).run Tryz.prog w=.ok (.value (.bool (!c))) w:=by
 subst hc
 unfold execOp
 simp only [ho,ha,hb,rciV,Sem.run_bind]
 rw [run_eqGuard_agg (P:=Tryz.prog) w .neq 29 a b (rciC r) (rciC q) (by kernel_rfl)]
 simp only [Result.andThen_ok,Sem.run_bind,run_neq_struct,eqin_dk 9995 r q]
 rfl
end Go.Proofs.YtcpjdjnaipbieaaGreat
namespace Go.Proofs.YtcpjdjnaipbieaaGreat
open Go.RowKit Rgn Eng
def Ci.in4 (n re im co:Int):Ci:=⟨(n:Rat),Cx.ofInt re im,(co:Rat)⟩
theorem rd_t1 {a b:Ci} (h:decide (a.dot b=(1:Rat))=true):(!decide (a=b.out))=a.touch b:=by
 have h:a.dot b=1:=of_decide_eq_true h
 unfold Ci.touch;rw [decide_eq_true h,Bool.true_and]
theorem rd_t0 {a b:Ci} (h:decide (a.dot b=(1:Rat))=false):false=a.touch b:=by
 have h:¬ a.dot b=1:=of_decide_eq_false h
 unfold Ci.touch;rw [decide_eq_false h,Bool.false_and]
def Ci.dk (c:Ci):Int:=if (!decide (c.b.norm-c.a*c.c=(1:Rat)))=true then 2 else 0
theorem dk_dot (c:Ci):c.b.norm-c.a*c.c=1↔c.dot c=-1:=by
 have h2:Rat.divInt (1:Int) (2:Int)=(1:Rat)/2:=by rw [Rat.divInt_eq_div];rfl
 unfold Ci.dot Cx.norm
 have e:(c.b.mul c.b.conj).re=c.b.re*c.b.re+c.b.im*c.b.im:=by unfold Cx.mul Cx.conj;grind
 rw [h2,e]
 grind
section
variable {a b:Ci}
end
end Go.Proofs.YtcpjdjnaipbieaaGreat
namespace Go.Proofs.YtcpjdjnaipbieaaGreat
open Go.RowKit Rgn Eng
set_option maxHeartbeats 8000000
set_option maxRecDepth 100000
variable {S:Nat→Prop} {W:World}
theorem rdPlus (a:Ci) (b:Ci) (p0:ht a.a+ht a.b.re+ht a.b.im+ht a.c+(ht b.a+ht b.b.re+ht b.b.im+ht b.c)≤67108000):Calls Tryz.prog 126 #[ciV a,ciV b] W (RetV (ciV (a.plus b)) W):=by
 have k0:=ht_add a.a b.a
 have k1:=hc_add a.b b.b
 have k2:=ht_add a.c b.c
 refine Run.goP (S:=Z0) ((Pack.nil.k (ciV a) (ciC a).toList (.s (.agg (ks 0 16)))).k (ciV b) (ciC b).toList (.s (.agg (ks 0 16)))) Tryz.func126 rfl ?_
 refine Run.dr ?_
 refine RunD.cV (fC (a.a+b.a)).toList (.s (.agg (ks 0 4))) (fun _ _ _ H=>fPlus a.a b.a (by omega)) ?_
 refine RunD.cV (gC (a.b.add b.b)).toList (.s (.agg (ks 0 8))) (fun _ _ _ H=>cPlus a.b b.b (by omega)) ?_
 refine RunD.cV (fC (a.c+b.c)).toList (.s (.agg (ks 0 4))) (fun _ _ _ H=>fPlus a.c b.c (by omega)) ?_
 refine RunD.en ?_
 exact Run.rV rfl
theorem rdOut (a:Ci):Calls Tryz.prog 89 #[ciV a] W (RetV (ciV a.out) W):=by
 have k0:=ht_neg a.a
 have k1:=hc_neg a.b
 have k2:=ht_neg a.c
 refine Run.goP (S:=Z0) (Pack.nil.k (ciV a) (ciC a).toList (.s (.agg (ks 0 16)))) Tryz.func89 rfl ?_
 refine Run.dr ?_
 refine RunD.cV (fC (-a.a)).toList (.s (.agg (ks 0 4))) (fun _ _ _ H=>fNeg a.a) ?_
 refine RunD.cV (gC a.b.neg).toList (.s (.agg (ks 0 8))) (fun _ _ _ H=>cNeg a.b) ?_
 refine RunD.cV (fC (-a.c)).toList (.s (.agg (ks 0 4))) (fun _ _ _ H=>fNeg a.c) ?_
 refine RunD.en ?_
 exact Run.rV rfl
theorem rdProd (a:Ci) (b:Ci) (p0:ht a.a+ht a.b.re+ht a.b.im+ht a.c≤5000000) (p1:ht b.a+ht b.b.re+ht b.b.im+ht b.c≤5000000):Calls Tryz.prog 92 #[ciV a,ciV b] W (RetV (fV (a.dot b)) W):=by
 obtain ⟨eaa,eba,eca⟩:=hb_ci p0
 obtain ⟨eab,ebb,ecb⟩:=hb_ci p1
 have k0:=hb_mul eaa ecb 10000000
 have k1:=hb_mul eab eca 10000000
 have k2:=hb_add k0 k1 20000000
 have k3:=HB.conj ebb
 have k4:=HB.mul eba k3 20000000
 have k5:=hb_mul k2 (by decide:ht (Rat.divInt (1) (2))≤4) 20000004
 have k6:=hb_sub k5 k4.1 40000004
 refine Run.goP (S:=Z0) ((Pack.nil.k (ciV a) (ciC a).toList (.s (.agg (ks 0 16)))).k (ciV b) (ciC b).toList (.s (.agg (ks 0 16)))) Tryz.func92 rfl ?_
 refine Run.dr ?_
 refine RunD.cV (fC (a.a*b.c)).toList (.s (.agg (ks 0 4))) (fun _ _ _ H=>fTimes a.a b.c (Nat.le_trans (Nat.add_le_add eaa ecb) (by decide))) ?_
 refine RunD.cV (fC (b.a*a.c)).toList (.s (.agg (ks 0 4))) (fun _ _ _ H=>fTimes b.a a.c (Nat.le_trans (Nat.add_le_add eab eca) (by decide))) ?_
 refine RunD.cV (fC ((a.a*b.c)+(b.a*a.c))).toList (.s (.agg (ks 0 4))) (fun _ _ _ H=>fPlus (a.a*b.c) (b.a*a.c) (Nat.le_trans (Nat.add_le_add k0 k1) (by decide))) ?_
 refine RunD.en ?_
 refine Run.dr ?_
 refine RunD.cV (gC b.b.conj).toList (.s (.agg (ks 0 8))) (fun _ _ _ H=>cConj b.b) ?_
 refine RunD.cV (gC (a.b.mul b.b.conj)).toList (.s (.agg (ks 0 8))) (fun _ _ _ H=>cTimes a.b b.b.conj (Nat.le_trans (Nat.add_le_add (Nat.add_le_add (Nat.add_le_add eba.1 eba.2) k3.1) k3.2) (by decide))) ?_
 refine RunD.en ?_
 refine Run.dr ?_
 refine RunD.cV (fC (Rat.divInt 1 2)).toList (.s (.agg (ks 0 4))) (fun _ _ _ H=>fSmall 1 2 (by decide) (by decide) (by decide) (by decide) (by decide)) ?_
 refine RunD.cV (fC (((a.a*b.c)+(b.a*a.c))*(Rat.divInt 1 2))).toList (.s (.agg (ks 0 4))) (fun _ _ _ H=>fTimes ((a.a*b.c)+(b.a*a.c)) (Rat.divInt 1 2) (Nat.le_trans (Nat.add_le_add k2 (by decide:ht (Rat.divInt (1) (2))≤4)) (by decide))) ?_
 refine RunD.cV (fC ((((a.a*b.c)+(b.a*a.c))*(Rat.divInt 1 2))-((a.b.mul b.b.conj).re))).toList (.s (.agg (ks 0 4))) (fun _ _ _ H=>fMinus (((a.a*b.c)+(b.a*a.c))*(Rat.divInt 1 2)) ((a.b.mul b.b.conj).re) (Nat.le_trans (Nat.add_le_add k5 k4.1) (by decide))) ?_
 refine RunD.en ?_
 exact Run.rV rfl
theorem rdTouch (a:Ci) (b:Ci) (p0:ht a.a+ht a.b.re+ht a.b.im+ht a.c≤5000000) (p1:ht b.a+ht b.b.re+ht b.b.im+ht b.c≤5000000):Calls Tryz.prog 94 #[ciV a,ciV b] W (RetV (.bool (a.touch b)) W):=by
 refine Run.goP (S:=Z0) ((Pack.nil.k (ciV a) (ciC a).toList (.s (.agg (ks 0 16)))).k (ciV b) (ciC b).toList (.s (.agg (ks 0 16)))) Tryz.func94 rfl ?_
 refine (Bool.eq_false_or_eq_true (decide (a.dot b=(1:Rat)))).elim (fun c1=>?_) (fun c1=>?_)
 · refine Run.dr ?_
   refine RunD.cV (fC (a.dot b)).toList (.s (.agg (ks 0 4))) (fun _ _ _ H=>rdProd a b p0 p1) ?_
   refine RunD.cV (fC (1:Rat)).toList (.s (.agg (ks 0 4))) (fun _ _ _ H=>fInt 1 (by decide) (by decide)) ?_
   refine RunD.bi [] (cb true) (fun _ _ _ o1 o2 _ ho hx hy=>ex_eql_frac (r:=(rf (a.dot b))) (q:=(rf (1:Rat))) o1 o2 ho hx hy ((rf_dec (a.dot b) (1:Rat)).trans c1)) ?_
   refine RunD.cV (ciC b.out).toList (.s (.agg (ks 0 16))) (fun _ _ _ H=>rdOut b) ?_
   refine RunD.bi [.bool (!decide (a=b.out))] kb (fun _ _ _ o1 o2 _ ho hx hy=>ex_neq_dk (r:=(rci a)) (q:=(rci b.out)) o1 o2 ho hx hy (rci_dec a b.out)) ?_
   refine RunD.en ?_
   exact Run.rV ((congrArg Value.bool (rd_t1 c1)))
 · refine Run.dr ?_
   refine RunD.cV (fC (a.dot b)).toList (.s (.agg (ks 0 4))) (fun _ _ _ H=>rdProd a b p0 p1) ?_
   refine RunD.cV (fC (1:Rat)).toList (.s (.agg (ks 0 4))) (fun _ _ _ H=>fInt 1 (by decide) (by decide)) ?_
   refine RunD.bi [] (cb false) (fun _ _ _ o1 o2 _ ho hx hy=>ex_eql_frac (r:=(rf (a.dot b))) (q:=(rf (1:Rat))) o1 o2 ho hx hy ((rf_dec (a.dot b) (1:Rat)).trans c1)) ?_
   refine RunD.en ?_
   exact Run.rV ((congrArg Value.bool (rd_t0 c1)))
theorem rdChkT (c:Ci) (p0:cifits (rci c)=true):Calls Tryz.prog 18 #[ciV c] W (RetV (.int .i64 c.dk) W):=by
 have f:=cifits_ht p0
 have k0:=hc_norm c.b
 have k1:=ht_mul c.a c.c
 have k2:=ht_sub c.b.norm (c.a*c.c)
 refine Run.goP (S:=Z0) (Pack.nil.k (ciV c) (ciC c).toList (.s (.agg (ks 0 16)))) Tryz.func18 rfl ?_
 refine Run.cV [.bool (fmay (rf c.a))] kb (fun _ _ _ H=>fMay (rf c.a)) ?_
 refine Run.kn (cmay_a p0) ?_
 refine Run.cV [.bool (gmay (rg c.b))] kb (fun _ _ _ H=>cMay (rg c.b)) ?_
 refine Run.kn (cmay_b p0) ?_
 refine Run.cV [.bool (fmay (rf c.c))] kb (fun _ _ _ H=>fMay (rf c.c)) ?_
 refine Run.kn (cmay_c p0) ?_
 refine Run.dr ?_
 refine RunD.cV (fC c.b.norm).toList (.s (.agg (ks 0 4))) (fun _ _ _ H=>cNorm c.b (by omega)) ?_
 refine RunD.cV (fC (c.a*c.c)).toList (.s (.agg (ks 0 4))) (fun _ _ _ H=>fTimes c.a c.c (by omega)) ?_
 refine RunD.cV (fC (c.b.norm-(c.a*c.c))).toList (.s (.agg (ks 0 4))) (fun _ _ _ H=>fMinus c.b.norm (c.a*c.c) (by omega)) ?_
 refine RunD.cV (fC (1:Rat)).toList (.s (.agg (ks 0 4))) (fun _ _ _ H=>fInt 1 (by decide) (by decide)) ?_
 refine RunD.bi [.bool (!decide (c.b.norm-(c.a*c.c)=(1:Rat)))] kb (fun _ _ _ o1 o2 _ ho hx hy=>ex_neq_frac (r:=(rf (c.b.norm-(c.a*c.c)))) (q:=(rf (1:Rat))) o1 o2 ho hx hy (rf_dec (c.b.norm-(c.a*c.c)) (1:Rat))) ?_
 refine RunD.en ?_
 refine (Bool.eq_false_or_eq_true (!decide (c.b.norm-(c.a*c.c)=(1:Rat)))).elim (fun c1=>?_) (fun c1=>?_)
 · refine Run.kn c1 ?_
   exact Run.rV (V' := .int .i64 (2)) ((by simp only [Ci.dk,c1];rfl))
 · refine Run.kn c1 ?_
   exact Run.rV (V' := .int .i64 (0)) ((by simp only [Ci.dk,c1];rfl))
theorem rdChkA (r:RCi) (p0:fmay r.a=false):Calls Tryz.prog 18 #[rciV r] W (RetV (.int .i64 2) W):=by
 refine Run.goP (S:=Z0) (Pack.nil.k (rciV r) (rciC r).toList (.s (.agg (ks 0 16)))) Tryz.func18 rfl ?_
 refine Run.cV [.bool (fmay r.a)] kb (fun _ _ _ H=>fMay r.a) ?_
 refine Run.kn p0 ?_
 exact Run.rV rfl
theorem rdChkB (r:RCi) (p0:fmay r.a=true) (p1:gmay r.b=false):Calls Tryz.prog 18 #[rciV r] W (RetV (.int .i64 2) W):=by
 refine Run.goP (S:=Z0) (Pack.nil.k (rciV r) (rciC r).toList (.s (.agg (ks 0 16)))) Tryz.func18 rfl ?_
 refine Run.cV [.bool (fmay r.a)] kb (fun _ _ _ H=>fMay r.a) ?_
 refine Run.kn p0 ?_
 refine Run.cV [.bool (gmay r.b)] kb (fun _ _ _ H=>cMay r.b) ?_
 refine Run.kn p1 ?_
 exact Run.rV rfl
theorem rdChkC (r:RCi) (p0:fmay r.a=true) (p1:gmay r.b=true) (p2:fmay r.c=false):Calls Tryz.prog 18 #[rciV r] W (RetV (.int .i64 2) W):=by
 refine Run.goP (S:=Z0) (Pack.nil.k (rciV r) (rciC r).toList (.s (.agg (ks 0 16)))) Tryz.func18 rfl ?_
 refine Run.cV [.bool (fmay r.a)] kb (fun _ _ _ H=>fMay r.a) ?_
 refine Run.kn p0 ?_
 refine Run.cV [.bool (gmay r.b)] kb (fun _ _ _ H=>cMay r.b) ?_
 refine Run.kn p1 ?_
 refine Run.cV [.bool (fmay r.c)] kb (fun _ _ _ H=>fMay r.c) ?_
 refine Run.kn p2 ?_
 exact Run.rV rfl
end Go.Proofs.YtcpjdjnaipbieaaGreat
namespace Go.Proofs.YtcpjdjnaipbieaaGreat
open Go.RowKit Rgn Eng
variable {W:World}
theorem rdChkO (c:Ci) (p0:dsOk (rci c)=true):Calls Tryz.prog 18 #[ciV c] W (RetV (.int .i64 0) W):=by
 obtain ⟨h1,h2⟩:=dsOk_c p0
 refine reV (congrArg (Value.int .i64) ?_) (rdChkT c h1)
 unfold Ci.dk;rw [decide_eq_true ((dk_dot c).2 h2)];rfl
theorem rdChkN (r:RCi) (p0:dsOk r=false):Calls Tryz.prog 18 #[rciV r] W (RetV (.int .i64 2) W):=by
 cases ha:fmay r.a with
 | false=>exact rdChkA r ha
 | true =>
  cases hb:gmay r.b with
  | false=>exact rdChkB r ha hb
  | true =>
   cases hc:fmay r.c with
   | false=>exact rdChkC r ha hb hc
   | true =>
    obtain ⟨c,rfl,hf⟩:=ci_of ha hb hc
    refine reV (congrArg (Value.int .i64) ?_) (rdChkT c hf)
    unfold Ci.dk;rw [decide_eq_false (fun e=>dsOk_no p0 ⟨c,rfl,hf,(dk_dot c).1 e⟩)];rfl
section
variable {a b c:Ci}
end
end Go.Proofs.YtcpjdjnaipbieaaGreat
namespace Go.Proofs.YtcpjdjnaipbieaaGreat
open Go.RowKit Rgn Eng
set_option maxHeartbeats 8000000
set_option maxRecDepth 100000
variable {S:Nat→Prop} {W:World}
theorem prY (a:Ci) (b:Ci) (p0:dsOk (rci a)=true) (p1:dsOk (rci b)=true):Calls Tryz.prog 83 #[ciV a,ciV b] W (RetV (.tuple #[rfV (fcut (a.dot b)),.int .i64 (ferr (a.dot b))]) W):=by
 have f0:=cifits_ht (dsOk_c p0).1
 have f1:=cifits_ht (dsOk_c p1).1
 have h1:=dot_ht a b
 refine Run.goP (S:=Z0) ((Pack.nil.k (ciV a) (ciC a).toList (.s (.agg (ks 0 16)))).k (ciV b) (ciC b).toList (.s (.agg (ks 0 16)))) Tryz.func83 rfl ?_
 refine Run.cB (n:=2) (T:=180) (φs:=ringF [a,b]) (fun _ _ _ H=>pl2Y 29 a b (H.b 3) p0 p1) (fun cp1=>?_)
 refine Run.dr ?_
 refine RunD.cR spRat (fun _ _ _ H=>dsBy a b (RingP.mk (H.f 0) (H.f 1) (H.f 2) (H.f 3)) (RingP.mk (H.f 4) (H.f 5) (H.f 6) (H.f 7)) (by omega)) ?_
 refine RunD.cV ((rfC (fcut (a.dot b))).toList++[.int .i64 (ferr (a.dot b))]) (.tup [.agg (ks 0 4),.o (.k 4)]) (fun _ _ _ H=>eFrac (a.dot b) (RatP.n (H.f 8)) (by omega)) ?_
 refine RunD.en ?_
 exact Run.rV rfl
theorem l20num (n:Int):Calls Tryz.prog 20 #[.int .i64 n] W (RetV (.int .i64 n) W):=by
 refine Run.goP (S:=Z0) (Pack.nil.k (.int .i64 n) [.int .i64 n] kb) Tryz.func20 rfl ?_
 exact Run.rV rfl
theorem l20in (n:Int) (re:Int) (im:Int) (co:Int) (p0:-9223372036854775808≤n∧n≤9223372036854775807) (p1:-9223372036854775808≤re∧re≤9223372036854775807) (p2:-9223372036854775808≤im∧im≤9223372036854775807) (p3:-9223372036854775808≤co∧co≤9223372036854775807):Calls Tryz.prog 108 #[.int .i64 n,.int .i64 re,.int .i64 im,.int .i64 co] W (RetV (ciV (Ci.in4 n re im co)) W):=by
 refine Run.goP (S:=Z0) ((((Pack.nil.k (.int .i64 n) [.int .i64 n] kb).k (.int .i64 re) [.int .i64 re] kb).k (.int .i64 im) [.int .i64 im] kb).k (.int .i64 co) [.int .i64 co] kb) Tryz.func108 rfl ?_
 refine Run.cV (fC (n:Rat)).toList (.s (.agg (ks 0 4))) (fun _ _ _ H=>fInt n (by omega) (by omega)) ?_
 refine Run.cV (gC (Cx.ofInt re im)).toList (.s (.agg (ks 0 8))) (fun _ _ _ H=>cInt re im (by omega) (by omega) (by omega) (by omega)) ?_
 refine Run.cV (fC (co:Rat)).toList (.s (.agg (ks 0 4))) (fun _ _ _ H=>fInt co (by omega) (by omega)) ?_
 exact Run.rV (rfl)
end Go.Proofs.YtcpjdjnaipbieaaGreat
namespace Go.Proofs.YtcpjdjnaipbieaaGreat
open Go.RowKit Rgn Eng
def lg6 (r:RW):Bool:=decide (60<(r.s.size:Int))&&decide ((r.s.size:Int)≤1024)
def lgD (r:RF):Bool:=lg6 r.a||lg6 r.b
def lgE (r:RG):Bool:=lgD r.re||lgD r.im
def lgK (c:RCi):Bool:=lgD c.a||lgE c.b||lgD c.c
theorem in4_fits {n re im co:Int} (h1:ht (n:Rat)≤100) (h2:ht (re:Rat)≤100) (h3:ht (im:Rat)≤100) (h4:ht (co:Rat)≤100):cifits (rci (Ci.in4 n re im co))=true:=by
 show (fits (rf (n:Rat))&&gfits (rg (Cx.ofInt re im))&&fits (rf (co:Rat)))=true
 rw [fits_ht (by omega),fits_ht (by omega),gfits_ht (z:=Cx.ofInt re im) ⟨by show ht (re:Rat)≤_;omega,by show ht (im:Rat)≤_;omega⟩];rfl
theorem okO:dsOk (rci (Ci.in4 (-1) 0 0 1))=true:=dsOk_yes (in4_fits (by decide) (by decide) (by decide) (by decide)) (by decide +kernel)
theorem okA:dsOk (rci (Ci.in4 2 1 0 0))=true:=dsOk_yes (in4_fits (by decide) (by decide) (by decide) (by decide)) (by decide +kernel)
theorem okB:dsOk (rci (Ci.in4 2 (-1) 0 0))=true:=dsOk_yes (in4_fits (by decide) (by decide) (by decide) (by decide)) (by decide +kernel)
theorem okC:dsOk (rci (Ci.in4 3 0 2 1))=true:=dsOk_yes (in4_fits (by decide) (by decide) (by decide) (by decide)) (by decide +kernel)
theorem ok_e {c:Ci} (h:cifits (rci c)=true):cierr c=0:=by unfold cierr;rw [if_pos h]
theorem ok_r {c:Ci} (h:cifits (rci c)=true):cicut c=rci c:=by unfold cicut;rw [if_pos h]
variable {W:World}
theorem wkPr (a b:Ci) (p0:a=Ci.in4 2 1 0 0) (p1:b=Ci.in4 2 (-1) 0 0):Calls Tryz.prog 83 #[ciV a,ciV b] W (RetV (.tuple #[fV (1:Rat),.int .i64 0]) W):=by
 subst p0;subst p1
 have e:(Ci.in4 2 1 0 0).dot (Ci.in4 2 (-1) 0 0)=1:=by decide +kernel
 have f:fits (rf (1:Rat))=true:=fits_ht (by decide)
 refine reV ?_ (prY _ _ okA okB)
 rw [e];unfold fcut ferr;rw [if_pos f,if_pos f]
theorem wkFo (a b c:Ci) (p0:a=Ci.in4 (-1) 0 0 1) (p1:b=Ci.in4 2 1 0 0) (p2:c=Ci.in4 2 (-1) 0 0):Calls Tryz.prog 17 #[ciV a,ciV b,ciV c] W (RetV (.tuple #[ciV (Ci.in4 3 0 (-2) 1),ciV (Ci.in4 3 0 2 1),.int .i64 0]) W):=by
 subst p0;subst p1;subst p2
 have e1:Ci.f4p (Ci.in4 (-1) 0 0 1) (Ci.in4 2 1 0 0) (Ci.in4 2 (-1) 0 0)=Ci.in4 3 0 (-2) 1:=by decide +kernel
 have e2:Ci.f4q (Ci.in4 (-1) 0 0 1) (Ci.in4 2 1 0 0) (Ci.in4 2 (-1) 0 0)=Ci.in4 3 0 2 1:=by decide +kernel
 have f1:cifits (rci (Ci.in4 3 0 (-2) 1))=true:=in4_fits (by decide) (by decide) (by decide) (by decide)
 have f2:cifits (rci (Ci.in4 3 0 2 1))=true:=in4_fits (by decide) (by decide) (by decide) (by decide)
 have g:¬ Ci.f4b (Ci.in4 (-1) 0 0 1) (Ci.in4 2 1 0 0) (Ci.in4 2 (-1) 0 0)=true:=by unfold Ci.f4b;rw [e1,e2,ok_e f1,ok_e f2];decide
 refine reV ?_ (fo4 _ _ _ okO okA okB (by decide +kernel))
 unfold Ci.f4P Ci.f4Q Ci.f4E;rw [if_neg g,if_neg g,if_neg g,e1,e2,ok_r f1,ok_r f2]
theorem wkSw (d0 d1 d2 d3:Ci) (p0:d0=Ci.in4 (-1) 0 0 1) (p1:d1=Ci.in4 2 1 0 0) (p2:d2=Ci.in4 2 (-1) 0 0) (p3:d3=Ci.in4 3 0 2 1):Calls Tryz.prog 43 #[.agg ⟨(ciC d0).toList++(ciC d1).toList++(ciC d2).toList++(ciC d3).toList⟩,.int .i64 0] W (RetV (.tuple #[.agg ⟨(ciC (Ci.in4 15 0 4 1)).toList++(ciC d1).toList++(ciC d2).toList++(ciC d3).toList⟩,.int .i64 0]) W):=by
 subst p0;subst p1;subst p2;subst p3
 have e:Ci.swp (Ci.in4 (-1) 0 0 1) (Ci.in4 2 1 0 0) (Ci.in4 2 (-1) 0 0) (Ci.in4 3 0 2 1) (Ci.in4 (-1) 0 0 1)=Ci.in4 15 0 4 1:=by decide +kernel
 have f:cifits (rci (Ci.in4 15 0 4 1))=true:=in4_fits (by decide) (by decide) (by decide) (by decide)
 refine reV ?_ (sw0Y _ _ _ _ okO okA okB okC (by decide +kernel) (by rw [e,ok_e f];rfl))
 rw [e,ok_r f]
end Go.Proofs.YtcpjdjnaipbieaaGreat
namespace Go.Proofs.YtcpjdjnaipbieaaGreat
open Go.RowKit Rgn Eng
set_option maxHeartbeats 4000000
set_option maxRecDepth 100000
variable {S:Nat→Prop} {W:World}
theorem l20longF (r:RF):Calls Tryz.prog 67 #[rfV r] W (RetV (.bool (lgD r)) W):=by
 refine Run.goP (S:=Z0) (Pack.nil.k (rfV r) (rfC r).toList (.s (.agg (ks 0 4)))) Tryz.func67 rfl ?_
 refine Run.sl r.a.s 9 Tryz.underlying9 ?_
 rcases Bool.eq_false_or_eq_true (decide (60<((r.a.s.size:Nat):Int))) with c0|c0
 · refine Run.ik .gtr ((r.a.s.size:Nat):Int) 60 true (congrArg some c0) ?_
   refine Run.sl r.a.s 9 Tryz.underlying9 ?_
   rcases Bool.eq_false_or_eq_true (decide (((r.a.s.size:Nat):Int)≤1024)) with c1|c1
   · refine Run.ik .leq ((r.a.s.size:Nat):Int) 1024 true (congrArg some c1) ?_
     exact Run.rV (show Value.bool true=.bool (lgD r) by unfold lgD lg6;rw [c0,c1];rfl)
   · refine Run.ik .leq ((r.a.s.size:Nat):Int) 1024 false (congrArg some c1) ?_
     refine Run.sl r.b.s 9 Tryz.underlying9 ?_
     rcases Bool.eq_false_or_eq_true (decide (60<((r.b.s.size:Nat):Int))) with c2|c2
     · refine Run.ik .gtr ((r.b.s.size:Nat):Int) 60 true (congrArg some c2) ?_
       refine Run.sl r.b.s 9 Tryz.underlying9 ?_
       rcases Bool.eq_false_or_eq_true (decide (((r.b.s.size:Nat):Int)≤1024)) with c3|c3
       · refine Run.ik .leq ((r.b.s.size:Nat):Int) 1024 true (congrArg some c3) ?_
         exact Run.rV (show Value.bool true=.bool (lgD r) by unfold lgD lg6;rw [c0,c1,c2,c3];rfl)
       · refine Run.ik .leq ((r.b.s.size:Nat):Int) 1024 false (congrArg some c3) ?_
         exact Run.rV (show Value.bool false=.bool (lgD r) by unfold lgD lg6;rw [c0,c1,c2,c3];rfl)
     · refine Run.ik .gtr ((r.b.s.size:Nat):Int) 60 false (congrArg some c2) ?_
       exact Run.rV (show Value.bool false=.bool (lgD r) by unfold lgD lg6;rw [c0,c1,c2];rfl)
 · refine Run.ik .gtr ((r.a.s.size:Nat):Int) 60 false (congrArg some c0) ?_
   refine Run.sl r.b.s 9 Tryz.underlying9 ?_
   rcases Bool.eq_false_or_eq_true (decide (60<((r.b.s.size:Nat):Int))) with c4|c4
   · refine Run.ik .gtr ((r.b.s.size:Nat):Int) 60 true (congrArg some c4) ?_
     refine Run.sl r.b.s 9 Tryz.underlying9 ?_
     rcases Bool.eq_false_or_eq_true (decide (((r.b.s.size:Nat):Int)≤1024)) with c5|c5
     · refine Run.ik .leq ((r.b.s.size:Nat):Int) 1024 true (congrArg some c5) ?_
       exact Run.rV (show Value.bool true=.bool (lgD r) by unfold lgD lg6;rw [c0,c4,c5];rfl)
     · refine Run.ik .leq ((r.b.s.size:Nat):Int) 1024 false (congrArg some c5) ?_
       exact Run.rV (show Value.bool false=.bool (lgD r) by unfold lgD lg6;rw [c0,c4,c5];rfl)
   · refine Run.ik .gtr ((r.b.s.size:Nat):Int) 60 false (congrArg some c4) ?_
     exact Run.rV (show Value.bool false=.bool (lgD r) by unfold lgD lg6;rw [c0,c4];rfl)
end Go.Proofs.YtcpjdjnaipbieaaGreat
namespace Go.Proofs.YtcpjdjnaipbieaaGreat
open Go.RowKit Rgn Eng
set_option maxHeartbeats 8000000
set_option maxRecDepth 100000
variable {S:Nat→Prop} {W:World}
theorem l20long1 {b0:Nat} (T0:TypeId) (a:RG) (B0:W.heap[b0]? = some (.cells (⟨(rgC a).toList⟩) T0 (0,0))):Calls Tryz.prog 66 #[.slice (some ⟨b0,0,none⟩) 1 1] W (RetV (.bool (lgE a)) W):=by
 refine Run.goP (S:=Z0) (Pack.nil.b B0 (some 1) 8) Tryz.func66 rfl ?_
 refine Run.cV [.bool (lgD a.re)] kb (fun _ _ _ H=>l20longF a.re) ?_
 refine (Bool.eq_false_or_eq_true (lgD a.re)).elim (fun c1=>?_) (fun c1=>?_)
 · refine Run.kn c1 ?_
   exact Run.rV (V' := .bool true) ((congrArg Value.bool (by simp [lgE,c1])))
 · refine Run.kn c1 ?_
   refine Run.cV [.bool (lgD a.im)] kb (fun _ _ _ H=>l20longF a.im) ?_
   refine (Bool.eq_false_or_eq_true (lgD a.im)).elim (fun c2=>?_) (fun c2=>?_)
   · refine Run.kn c2 ?_
     exact Run.rV (V' := .bool true) ((congrArg Value.bool (by simp [lgE,c1,c2])))
   · refine Run.kn c2 ?_
     exact Run.rV (V' := .bool false) ((congrArg Value.bool (by simp [lgE,c1,c2])))
theorem l20far2 {b0:Nat} (T0:TypeId) (a:RCi) (b:RCi) (B0:W.heap[b0]? = some (.cells (⟨(rciC a).toList++((rciC b).toList)⟩) T0 (0,0))):Calls Tryz.prog 15 #[.slice (some ⟨b0,0,none⟩) 2 2] W (RetV (.bool (lgK a||lgK b)) W):=by
 refine Run.goP (S:=Z0) (Pack.nil.b B0 (some 2) 32) Tryz.func15 rfl ?_
 refine Run.cV [.bool (lgD a.a)] kb (fun _ _ _ H=>l20longF a.a) ?_
 refine (Bool.eq_false_or_eq_true (lgD a.a)).elim (fun c1=>?_) (fun c1=>?_)
 · refine Run.kn c1 ?_
   exact Run.rV (V' := .bool true) ((congrArg Value.bool (by simp [lgK,c1])))
 · refine Run.kn c1 ?_
   refine Run.cV [.bool (lgE a.b)] kb (fun _ _ _ H=>l20long1 27 a.b (H.b 1)) ?_
   refine (Bool.eq_false_or_eq_true (lgE a.b)).elim (fun c2=>?_) (fun c2=>?_)
   · refine Run.kn c2 ?_
     exact Run.rV (V' := .bool true) ((congrArg Value.bool (by simp [lgK,c1,c2])))
   · refine Run.kn c2 ?_
     refine Run.cV [.bool (lgD a.c)] kb (fun _ _ _ H=>l20longF a.c) ?_
     refine (Bool.eq_false_or_eq_true (lgD a.c)).elim (fun c3=>?_) (fun c3=>?_)
     · refine Run.kn c3 ?_
       exact Run.rV (V' := .bool true) ((congrArg Value.bool (by simp [lgK,c1,c2,c3])))
     · refine Run.kn c3 ?_
       refine Run.cV [.bool (lgD b.a)] kb (fun _ _ _ H=>l20longF b.a) ?_
       refine (Bool.eq_false_or_eq_true (lgD b.a)).elim (fun c4=>?_) (fun c4=>?_)
       · refine Run.kn c4 ?_
         exact Run.rV (V' := .bool true) ((congrArg Value.bool (by simp [lgK,c1,c2,c3,c4])))
       · refine Run.kn c4 ?_
         refine Run.cV [.bool (lgE b.b)] kb (fun _ _ _ H=>l20long1 27 b.b (H.b 2)) ?_
         refine (Bool.eq_false_or_eq_true (lgE b.b)).elim (fun c5=>?_) (fun c5=>?_)
         · refine Run.kn c5 ?_
           exact Run.rV (V' := .bool true) ((congrArg Value.bool (by simp [lgK,c1,c2,c3,c4,c5])))
         · refine Run.kn c5 ?_
           refine Run.cV [.bool (lgD b.c)] kb (fun _ _ _ H=>l20longF b.c) ?_
           refine (Bool.eq_false_or_eq_true (lgD b.c)).elim (fun c6=>?_) (fun c6=>?_)
           · refine Run.kn c6 ?_
             exact Run.rV (V' := .bool true) ((congrArg Value.bool (by simp [lgK,c1,c2,c3,c4,c5,c6])))
           · refine Run.kn c6 ?_
             exact Run.rV (V' := .bool false) ((congrArg Value.bool (by simp [lgK,c1,c2,c3,c4,c5,c6])))
theorem l20works  : Calls Tryz.prog 16 #[] W (RetV (.bool true) W):=by
 refine Run.goP (S:=Z0) Pack.nil Tryz.func16 rfl ?_
 refine Run.cV (ciC (Ci.in4 (-1) 0 0 1)).toList (.s (.agg (ks 0 16))) (fun _ _ _ H=>l20in (-1) 0 0 1 (by first|omega|rfl) (by first|omega|rfl) (by first|omega|rfl) (by first|omega|rfl)) ?_
 refine Run.cV (ciC (Ci.in4 2 1 0 0)).toList (.s (.agg (ks 0 16))) (fun _ _ _ H=>l20in 2 1 0 0 (by first|omega|rfl) (by first|omega|rfl) (by first|omega|rfl) (by first|omega|rfl)) ?_
 refine Run.cV (ciC (Ci.in4 2 (-1) 0 0)).toList (.s (.agg (ks 0 16))) (fun _ _ _ H=>l20in 2 (-1) 0 0 (by first|omega|rfl) (by first|omega|rfl) (by first|omega|rfl) (by first|omega|rfl)) ?_
 refine Run.cV (ciC (Ci.in4 3 0 2 1)).toList (.s (.agg (ks 0 16))) (fun _ _ _ H=>l20in 3 0 2 1 (by first|omega|rfl) (by first|omega|rfl) (by first|omega|rfl) (by first|omega|rfl)) ?_
 refine Run.cV (fC (1:Rat)).toList (.tup [.agg (ks 0 4),.o (.c (.int .i64 0))]) (fun _ _ _ H=>wkPr (Ci.in4 2 1 0 0) (Ci.in4 2 (-1) 0 0) (by first|omega|rfl) (by first|omega|rfl)) ?_
 refine Run.cV ((ciC (Ci.in4 3 0 (-2) 1)).toList++(ciC (Ci.in4 3 0 2 1)).toList) (.tup [.agg (ks 0 16),.agg (ks 16 16),.o (.c (.int .i64 0))]) (fun _ _ _ H=>wkFo (Ci.in4 (-1) 0 0 1) (Ci.in4 2 1 0 0) (Ci.in4 2 (-1) 0 0) (by first|omega|rfl) (by first|omega|rfl) (by first|omega|rfl)) ?_
 refine Run.cV ((ciC (Ci.in4 15 0 4 1)).toList++(ciC (Ci.in4 2 1 0 0)).toList++(ciC (Ci.in4 2 (-1) 0 0)).toList++(ciC (Ci.in4 3 0 2 1)).toList) (.tup [.agg (ks 0 64),.o (.c (.int .i64 0))]) (fun _ _ _ H=>wkSw (Ci.in4 (-1) 0 0 1) (Ci.in4 2 1 0 0) (Ci.in4 2 (-1) 0 0) (Ci.in4 3 0 2 1) (by first|omega|rfl) (by first|omega|rfl) (by first|omega|rfl) (by first|omega|rfl)) ?_
 refine Run.dr ?_
 refine RunD.cV [] (.s (.o (.c (.int .i64 0)))) (fun _ _ _ H=>l20num 0) ?_
 refine RunD.cV (fC (1:Rat)).toList (.s (.agg (ks 0 4))) (fun _ _ _ H=>fInt 1 (by decide) (by decide)) ?_
 refine RunD.bi [] (cb true) (fun _ _ _ o1 o2 _ ho hx hy=>ex_eql_frac (r:=(rf (1:Rat))) (q:=(rf (1:Rat))) o1 o2 ho hx hy ((rf_dec (1:Rat) (1:Rat)).trans (decide_eq_true rfl))) ?_
 refine RunD.cV [] (.s (.o (.c (.int .i64 0)))) (fun _ _ _ H=>l20num 0) ?_
 refine RunD.cV (ciC (Ci.in4 3 0 (-2) 1)).toList (.s (.agg (ks 0 16))) (fun _ _ _ H=>l20in 3 0 (-2) 1 (by first|omega|rfl) (by first|omega|rfl) (by first|omega|rfl) (by first|omega|rfl)) ?_
 refine RunD.bi [] (cb true) (fun _ _ _ o1 o2 _ ho hx hy=>ex_eql_dk (r:=(rci (Ci.in4 3 0 (-2) 1))) (q:=(rci (Ci.in4 3 0 (-2) 1))) o1 o2 ho hx hy ((rci_dec (Ci.in4 3 0 (-2) 1) (Ci.in4 3 0 (-2) 1)).trans (decide_eq_true rfl))) ?_
 refine RunD.bi [] (cb true) (fun _ _ _ o1 o2 _ ho hx hy=>ex_eql_dk (r:=(rci (Ci.in4 3 0 2 1))) (q:=(rci (Ci.in4 3 0 2 1))) o1 o2 ho hx hy ((rci_dec (Ci.in4 3 0 2 1) (Ci.in4 3 0 2 1)).trans (decide_eq_true rfl))) ?_
 refine RunD.cV [] (.s (.o (.c (.int .i64 0)))) (fun _ _ _ H=>l20num 0) ?_
 refine RunD.cV (ciC (Ci.in4 15 0 4 1)).toList (.s (.agg (ks 0 16))) (fun _ _ _ H=>l20in 15 0 4 1 (by first|omega|rfl) (by first|omega|rfl) (by first|omega|rfl) (by first|omega|rfl)) ?_
 refine RunD.bi [] (cb true) (fun _ _ _ o1 o2 _ ho hx hy=>ex_eql_dk (r:=(rci (Ci.in4 15 0 4 1))) (q:=(rci (Ci.in4 15 0 4 1))) o1 o2 ho hx hy ((rci_dec (Ci.in4 15 0 4 1) (Ci.in4 15 0 4 1)).trans (decide_eq_true rfl))) ?_
 refine RunD.en ?_
 exact Run.rV rfl
end Go.Proofs.YtcpjdjnaipbieaaGreat
namespace Go.Proofs.YtcpjdjnaipbieaaGreat
open Go.RowKit Rgn Eng
section
variable {a b c:Ci}
theorem er_t {x:Ci} (h:cifits (rci x)=true):(cierr x != 0)=false:=by rw [ok_e h];rfl
end
end Go.Proofs.YtcpjdjnaipbieaaGreat
namespace Go.Proofs.YtcpjdjnaipbieaaGreat
open Go.RowKit Rgn
structure PnF (P:Pn):Prop where
 z:P.inf=true→P.z=⟨0,0⟩
 f:pnfits P=true
theorem pnOk_ex {r:RPn} (h:pnOk r=true):∃ P,r=pnR P∧PnF P:=by
 unfold pnOk at h
 split at h
 ·have:=of_decide_eq_true h
  exact ⟨⟨true,⟨0,0⟩⟩,this,fun _=>rfl,rfl⟩
 ·rename_i hi
  obtain ⟨i,z⟩:=r
  cases i with
  | true=>exact absurd rfl hi
  | false =>
   obtain ⟨c,rfl⟩:=gmay_ex h
   rw [gmay_rg] at h
   exact ⟨⟨false,c⟩,rfl,⟨fun h=>(by cases h),h⟩⟩
theorem PnF.ht {P:Pn} (h:PnF P):ht P.z.re+ht P.z.im≤20000:=by
 cases e:P.inf with
 | true=>rw [h.z e];decide
 | false =>
  have:=h.f
  unfold pnfits at this
  rw [e] at this
  exact gfits_ht2 this
theorem pnR_I {P:Pn} (h:PnF P) (e:P.inf=true):P=⟨true,⟨0,0⟩⟩:=by
 obtain ⟨i,z⟩:=P
 cases e
 have:=h.z rfl
 subst this;rfl
section
variable {m:Mb} {c:Ci} (h:m.det.zero=false) (hc:c.pos=true)
include h hc
end
theorem pnOk_pnR {P:Pn} (h:PnF P):pnOk (pnR P)=true:=by
 have hf:=h.f
 obtain ⟨i,z⟩:=P
 cases i with
 | true=>exact decide_eq_true (p:=RPn.mk true rz=RPn.mk true rz) rfl
 | false =>
  show gmay (rg z)=true
  rw [gmay_rg];exact hf
end Go.Proofs.YtcpjdjnaipbieaaGreat
namespace Go.Proofs.YtcpjdjnaipbieaaGreat
open Go.RowKit Rgn Eng
set_option maxHeartbeats 8000000
set_option maxRecDepth 100000
variable {S:Nat→Prop} {W:World}
theorem p7May (r:RPn):Calls Tryz.prog 90 #[rpnV r] W (RetV (.bool (pnOk r)) W):=by
 refine Run.goP (S:=Z0) (Pack.nil.k (rpnV r) (rpnC r).toList (.s (.agg (ks 0 9)))) Tryz.func90 rfl ?_
 refine (Bool.eq_false_or_eq_true (r.inf)).elim (fun c1=>?_) (fun c1=>?_)
 · refine Run.kn c1 ?_
   refine Run.bi [.bool (decide (r=RPn.mk true rz))] kb (fun _ _ _ o1 o2 _ ho hx hy=>ex_eql_pn (r:=r) (q:=(RPn.mk true rz)) o1 o2 ho hx hy rfl) ?_
   exact Run.rV (spot_1 c1)
 · refine Run.kn c1 ?_
   refine Run.cV [.bool (gmay r.z)] kb (fun _ _ _ H=>cMay r.z) ?_
   exact Run.rV (spot_0 c1)
end Go.Proofs.YtcpjdjnaipbieaaGreat
namespace Go.Proofs.YtcpjdjnaipbieaaGreat
open Go.RowKit Rgn Eng
variable {S:Nat→Prop} {W:World}
theorem eSpotP (P:Pn) (p1:PnF P):Calls Tryz.prog 156 #[rpnV (pnR P)] W (Ret (VP.tup (PlaceP P) (VP.is (.bool true))) S W):=by
 cases e:P.inf with
 | true=>have:=pnR_I p1 e;subst this;exact eSpotI
 | false =>
  have h:=p1.f
  obtain ⟨i,z⟩:=P
  cases e
  exact eSpotZ z h
end Go.Proofs.YtcpjdjnaipbieaaGreat
namespace Go.Proofs.YtcpjdjnaipbieaaGreat
open Go.RowKit Rgn Eng
set_option maxHeartbeats 8000000
set_option maxRecDepth 100000
variable {S:Nat→Prop} {W:World}
theorem rgVal {v0 v1:Value} (c:Ci) (z:Cx) (t0:(RingP c).p S v0 W) (t1:(NumP z).p S v1 W) (p0:ht c.a+ht c.b.re+ht c.b.im+ht c.c+(ht z.re+ht z.im)≤67108864):Calls Tryz.prog 265 #[v0,v1] W (Ret (RatP (c.val z)) S W):=by
 have h1:=hc_mul c.b z
 have h2:=hc_norm z
 have h3:=ht_mul c.a z.norm
 have h4:=ht_add (c.b.mul z).re (c.b.mul z).re
 refine Run.goP (S:=S) ((Pack.nil.s spRing t0).s spNum t1) Tryz.func265 rfl ?_
 refine Run.cR spNum (fun _ _ _ H=>eNMul c.b z (NumP.mk (H.f 1) (H.f 2)) (NumP.mk (H.f 4) (H.f 5)) (by first|omega|(dsimp only at *;omega))) ?_
 refine Run.cR sp2Rat (fun _ _ _ H=>eParts (c.b.mul z) (NumP.mk (H.f 6) (H.f 7))) ?_
 refine Run.dr ?_
 refine RunD.cR spRat (fun _ _ _ H=>eNorm z (NumP.mk (H.f 4) (H.f 5)) (by first|omega|(dsimp only at *;omega))) ?_
 refine RunD.cR spRat (fun _ _ _ H=>eMul c.a z.norm (RatP.n (H.f 0)) (RatP.n (H.f 10)) (by first|omega|(dsimp only at *;omega))) ?_
 refine RunD.cR spRat (fun _ _ _ H=>eTwice ((c.b.mul z).re) (H.f 8) (by first|omega|(dsimp only at *;omega))) ?_
 refine RunD.cR spRat (fun _ _ _ H=>retZ (eSum3 (c.a*z.norm) (((c.b.mul z).re)+((c.b.mul z).re)) c.c (RatsP.mk3 (H.b 2) (H.f 11) (H.f 12) (H.f 3)) (by first|omega|(dsimp only at *;omega)))) ?_
 refine RunD.en ?_
 exact Run.rR (fun _ _ _ H=>VPe (φ:=RatP) (val_eq c z) (H.f 13))
theorem rgSide {v0 v1:Value} (c:Ci) (p:Pn) (t0:(RingP c).p S v0 W) (t1:(PlaceP p).p S v1 W) (p0:ht c.a+ht c.b.re+ht c.b.im+ht c.c+(ht p.z.re+ht p.z.im)≤67108864):Calls Tryz.prog 212 #[v0,v1] W (RetV (.int .i64 (c.side p)) W):=by
 refine Run.goP (S:=S) ((Pack.nil.s spRing t0).s spPlace t1) Tryz.func212 rfl ?_
 refine (Bool.eq_false_or_eq_true (p.inf)).elim (fun c1=>?_) (fun c1=>?_)
 · refine Run.kn c1 ?_
   refine Run.cV [.int .i64 c.a.num.sign] kb (fun _ _ _ H=>qSign c.a (H.f 0)) ?_
   exact Run.rV (side_1 c1)
 · refine Run.kn c1 ?_
   refine Run.cR spRat (fun _ _ _ H=>rgVal c p.z (RingP.mk (H.f 0) (H.f 1) (H.f 2) (H.f 3)) (NumP.mk (H.f 4) (H.f 5)) p0) ?_
   refine Run.cV [.int .i64 ((c.val p.z).num.sign)] kb (fun _ _ _ H=>qSign (c.val p.z) (H.f 6)) ?_
   exact Run.rV (side_0 c1)
theorem plTold {v0:Value} (p:Pn) (t0:(PlaceP p).p S v0 W) (p0:ht p.z.re+ht p.z.im≤1073741824):Calls Tryz.prog 158 #[v0] W (RetV (.tuple #[rpnV (pncut p),.int .i64 (pnerr p)]) W):=by
 refine Run.goP (S:=S) (Pack.nil.s spPlace t0) Tryz.func158 rfl ?_
 refine (Bool.eq_false_or_eq_true (p.inf)).elim (fun c1=>?_) (fun c1=>?_)
 · refine Run.kn c1 ?_
   exact Run.rV (pcut_inf c1)
 · refine Run.kn c1 ?_
   refine Run.cV ((rgC (gcut p.z)).toList++[.int .i64 (gerr p.z)]) (.tup [.agg (ks 0 8),.o (.k 8)]) (fun _ _ _ H=>eTold p.z (NumP.mk (H.f 0) (H.f 1)) (by first|omega|(dsimp only at *;omega))) ?_
   exact Run.rV (pcut_num c1)
end Go.Proofs.YtcpjdjnaipbieaaGreat
namespace Go.Proofs.YtcpjdjnaipbieaaGreat
open Go.RowKit Rgn Eng
theorem rim_hs (a:Ci):ht a.rim.a+ht a.rim.b.re+ht a.rim.b.im+ht a.rim.c=ht a.a+ht a.b.re+ht a.b.im+ht a.c:=by
 have h1:ht a.rim.b.re=ht a.b.re:=ht_neg a.b.re
 have h2:ht a.rim.b.im=ht a.b.im:=(ht_neg (-a.b.im)).trans (ht_neg a.b.im)
 show ht a.a+ht a.rim.b.re+ht a.rim.b.im+ht a.c=_
 omega
theorem rim_pow {a:Ci} (h:a.dot a=-1):a.rim.pow=1:=by
 have h:=(dk_dot a).2 h
 show (a.b.conj.neg).norm-a.a*a.c=1
 rw [← h];unfold Cx.norm Cx.neg Cx.conj;grind
theorem rim_pos {a:Ci} (p:dsOk (rci a)=true):a.rim.pos=true:=by
 unfold Ci.pos;rw [rim_pow (dsOk_c p).2];decide
theorem rim_flat {a:Ci} (p:dsOk (rci a)=true):a.rim.flat=false:=pos_flat (rim_pos p)
theorem fits_neg (x:Rat):fits (rf (-x))=fits (rf x):=by
 unfold fits
 have h1:(-x).num=-x.num:=rfl
 have h2:(-x).den=x.den:=rfl
 show (decide ((bS (-x).num.natAbs).size≤1024)&&decide ((bS ((-x).den:Int).natAbs).size≤1024))=(decide ((bS x.num.natAbs).size≤1024)&&decide ((bS (x.den:Int).natAbs).size≤1024))
 rw [h1,h2,Int.natAbs_neg]
theorem out_fits (a:Ci):cifits (rci a.out)=cifits (rci a):=by
 show (fits (rf (-a.a))&&(fits (rf (-a.b.re))&&fits (rf (-a.b.im)))&&fits (rf (-a.c)))=(fits (rf a.a)&&(fits (rf a.b.re)&&fits (rf a.b.im))&&fits (rf a.c))
 rw [fits_neg,fits_neg,fits_neg,fits_neg]
theorem ou_eq {a:Ci} (p:dsOk (rci a)=true):Value.tuple #[rciV (cicut a.out),.int .i64 (cierr a.out)]=.tuple #[ciV a.out,.int .i64 0]:=by
 have h:cifits (rci a.out)=true:=(out_fits a).trans (dsOk_c p).1
 rw [ok_r h,ok_e h]
section
variable {a b:Ci}
theorem dot_comm (a b:Ci):a.dot b=b.dot a:=by unfold Ci.dot Cx.mul Cx.conj;grind
theorem out_out (a:Ci):a.out.out=a:=by
 unfold Ci.out Cx.neg
 cases a with|mk x y z=>cases y with|mk u v=>simp only [Rat.neg_neg]
theorem out_sw (a b:Ci):a=b.out↔b=a.out:=⟨fun h=>by rw [h,out_out],fun h=>by rw [h,out_out]⟩
theorem touch_comm (a b:Ci):a.touch b=b.touch a:=by
 unfold Ci.touch;rw [dot_comm a b,decide_eq_decide.2 (out_sw a b)]
theorem tch_c (a b:Ci):[b.touch a].all id=a.touch b:=by rw [touch_comm a b];show (id (b.touch a)&&true)=_;rw [Bool.and_true];rfl
theorem tch_f (h:a.touch b=false):[b.touch a].all id=false:=(tch_c a b).trans h
theorem tch_t (h:a.touch b=true):[b.touch a].all id=true:=(tch_c a b).trans h
theorem to_eq (a b:Ci):Value.tuple #[.bool ([b.touch a].all id),.int .i64 0]=.tuple #[.bool (a.touch b),.int .i64 0]:=by rw [tch_c]
def Ci.apt (a b:Ci):Bool:=decide (0≤icmp ((a.dot b).num*((1:Rat).den:Int)) ((1:Rat).num*((a.dot b).den:Int)))&&decide (0≤(a.plus b).a.num.sign)&&decide (0≤(a.plus b).c.num.sign)
theorem d11:Rat.divInt 1 1=(1:Rat):=by decide
theorem apV {x y:Bool} (h:x=y):Value.tuple #[.bool x,.int .i64 0]=.tuple #[.bool y,.int .i64 0]:=by rw [h]
theorem ap_0 (h:decide (0≤icmp ((a.dot b).num*((Rat.divInt 1 1).den:Int)) ((Rat.divInt 1 1).num*((a.dot b).den:Int)))=false):false=a.apt b:=by
 rw [d11] at h;unfold Ci.apt;rw [h];rfl
theorem ap_1 (h:decide (0≤icmp ((a.dot b).num*((Rat.divInt 1 1).den:Int)) ((Rat.divInt 1 1).num*((a.dot b).den:Int)))=true) (h2:decide (0≤(a.plus b).a.num.sign)=false):false=a.apt b:=by
 rw [d11] at h;unfold Ci.apt;rw [h,h2];rfl
theorem ap_2 (h:decide (0≤icmp ((a.dot b).num*((Rat.divInt 1 1).den:Int)) ((Rat.divInt 1 1).num*((a.dot b).den:Int)))=true) (h2:decide (0≤(a.plus b).a.num.sign)=true):decide (0≤(a.plus b).c.num.sign)=a.apt b:=by
 rw [d11] at h;unfold Ci.apt;rw [h,h2];rfl
theorem rap_0 (h:decide (0≤icmp ((a.dot b).num*((1:Rat).den:Int)) ((1:Rat).num*((a.dot b).den:Int)))=false):false=a.apt b:=by unfold Ci.apt;rw [h];rfl
theorem rap_1 (h:decide (0≤icmp ((a.dot b).num*((1:Rat).den:Int)) ((1:Rat).num*((a.dot b).den:Int)))=true) (h2:decide (0≤(a.a+b.a).num.sign)=false):false=a.apt b:=by
 have h2:decide (0≤(a.plus b).a.num.sign)=false:=h2
 unfold Ci.apt;rw [h,h2];rfl
theorem rap_2 (h:decide (0≤icmp ((a.dot b).num*((1:Rat).den:Int)) ((1:Rat).num*((a.dot b).den:Int)))=true) (h2:decide (0≤(a.a+b.a).num.sign)=true):decide (0≤(a.c+b.c).num.sign)=a.apt b:=by
 have h2:decide (0≤(a.plus b).a.num.sign)=true:=h2
 unfold Ci.apt;rw [h,h2];rfl
def Ci.kis (a b:Ci):Pn:=if ((a.plus b).a.num.sign == 0)=true then ⟨true,⟨0,0⟩⟩ else ⟨false,(a.plus b).b.scale (a.plus b).a⁻¹⟩
theorem kis_1 (h:((a.plus b).a.num.sign == 0)=true):a.kis b=⟨true,⟨0,0⟩⟩:=by unfold Ci.kis;rw [if_pos h]
theorem kis_0 (h:((a.plus b).a.num.sign == 0)=false):a.kis b=⟨false,(a.plus b).b.scale (a.plus b).a⁻¹⟩:=by unfold Ci.kis;rw [if_neg (by rw [h];decide)]
theorem ki_1 (h:((a.plus b).a.num.sign == 0)=true):Value.tuple #[rpnV ⟨true,rz⟩,.int .i64 0]=.tuple #[rpnV (pncut (a.kis b)),.int .i64 (pnerr (a.kis b))]:=by
 rw [kis_1 h];exact pcut_inf rfl
theorem ki_0 (h:((a.plus b).a.num.sign == 0)=false):Value.tuple #[rpnV (pncut ⟨false,(a.plus b).b.scale (a.plus b).a⁻¹⟩),.int .i64 (pnerr ⟨false,(a.plus b).b.scale (a.plus b).a⁻¹⟩)]=.tuple #[rpnV (pncut (a.kis b)),.int .i64 (pnerr (a.kis b))]:=by
 rw [kis_0 h]
theorem rk_1 (h:((a.plus b).a.num.sign == 0)=true):rpnV ⟨true,rz⟩=rpnV (pnR (a.kis b)):=by rw [kis_1 h];rfl
theorem inv_1 (x:Rat):1/x=x⁻¹:=by rw [Rat.div_def,Rat.one_mul]
theorem rk_0 (h:((a.plus b).a.num.sign == 0)=false):rpnV ⟨false,rg ((a.plus b).b.scale (1/(a.plus b).a))⟩=rpnV (pnR (a.kis b)):=by rw [kis_0 h,inv_1];rfl
theorem rdSi_eq (a:Ci) (z:Cx):(a.a*z.norm-((a.b.conj.mul z).re+(a.b.conj.mul z).re)+a.c).num.sign=(a.rim.val z).num.sign:=by
 have:a.a*z.norm-((a.b.conj.mul z).re+(a.b.conj.mul z).re)+a.c=a.rim.val z:=by
  show _=a.a*z.norm+((a.b.conj.neg.mul z).re+(a.b.conj.neg.mul z).re)+a.c
  unfold Cx.mul Cx.conj Cx.neg;grind
 rw [this]
end
end Go.Proofs.YtcpjdjnaipbieaaGreat
