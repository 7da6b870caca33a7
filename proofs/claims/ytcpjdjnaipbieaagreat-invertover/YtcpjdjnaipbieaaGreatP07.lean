/- tracerylaw14.InvertOver returns true for any two circles and any point, and changes nothing that it was handed. No condition. -/
import Derived.Test.YtcpjdjnaipbieaaGreatP06
import Derived.ProofKit
import Derived.OpenShut
import Derived.JoinedCond
import Derived.Deep.Slices
import Derived.Deep.Strs
import Derived.Test.YtcpjdjnaipbieaaGreatRows
import Derived.WalkKit
import Derived.Below
import Derived.ChangeSame
import Derived.WideKeyArgs
import Derived.JoinedOf
import Derived.JoinedAt
set_option linter.unusedVariables false
set_option linter.unusedSimpArgs false
namespace Go.Proofs.YtcpjdjnaipbieaaGreat
open Go.RowKit Rgn
set_option maxHeartbeats 4000000
set_option maxRecDepth 100000
variable {S:Nat → Prop} {W:World}
theorem ivRtY (x:Ci) (y:Ci) (p0:ciOk (rci x) = true) (p1:ciOk (rci y) = true) :
  Calls Tryz.prog 34 #[ciV x,ciV y] W (RetV (.tuple #[.bool ((x.dot y).num.sign == 0),.int .i64 0]) W):=by
 have f1:=cifits_ht (ciOk_c p0).1
 have f2:=cifits_ht (ciOk_c p1).1
 have bel:=b0 W
 go_enter Tryz.func34,Tryz.ntmps34
 refine gs 4 (Amb Z0 W) fun _ K1=>?_
 refine .bx rfl (fun H=>H.v 0 (ciV x)) ?_
 refine .bx rfl (fun H=>H.v 1 (ciV y)) ?_
 refine .mc rfl ?_
 refine .mc rfl ?_
 refine .dk (fun u=>ciV x::ciV y::sq u 0 4 (us 21)) K1 bel fun u1 w1 D bel=>?_
 obtain ⟨b2,E1_0,A2,B2⟩:=D.nw 0
 obtain ⟨b3,E1_1,A3,B3⟩:=D.nw 1
 have E1_2:=D.q 2
 have E1_3:=D.q 3
 clear D
 refine wp_seq_k fun _ K4=>?_
 refine wp_region_list ?_
 refine wpT_val (v:=ciV x) rfl (ex_load_row 47 _ rfl (by exact E1_0) B2 Tryz.underlying47 rfl (by kernel_rfl)) ?_
 refine wpT_val (v:=ciV y) rfl (ex_load_row 47 _ rfl (by exact E1_1) B3 Tryz.underlying47 rfl (by kernel_rfl)) ?_
 refine wpT_bs2 (e:=47) 16 (cs:=#[.bool (decide (x.a.num < 0)),.string (bS x.a.num.natAbs),.bool (decide ((x.a.den:Int) < 0)),.string (bS (x.a.den:Int).natAbs),.bool (decide (x.b.re.num < 0)),.string (bS x.b.re.num.natAbs),.bool (decide ((x.b.re.den:Int) < 0)),.string (bS (x.b.re.den:Int).natAbs),.bool (decide (x.b.im.num < 0)),.string (bS x.b.im.num.natAbs),.bool (decide ((x.b.im.den:Int) < 0)),.string (bS (x.b.im.den:Int).natAbs),.bool (decide (x.c.num < 0)),.string (bS x.c.num.natAbs),.bool (decide ((x.c.den:Int) < 0)),.string (bS (x.c.den:Int).natAbs),.bool (decide (y.a.num < 0)),.string (bS y.a.num.natAbs),.bool (decide ((y.a.den:Int) < 0)),.string (bS (y.a.den:Int).natAbs),.bool (decide (y.b.re.num < 0)),.string (bS y.b.re.num.natAbs),.bool (decide ((y.b.re.den:Int) < 0)),.string (bS (y.b.re.den:Int).natAbs),.bool (decide (y.b.im.num < 0)),.string (bS y.b.im.num.natAbs),.bool (decide ((y.b.im.den:Int) < 0)),.string (bS (y.b.im.den:Int).natAbs),.bool (decide (y.c.num < 0)),.string (bS y.c.num.natAbs),.bool (decide ((y.c.den:Int) < 0)),.string (bS (y.c.den:Int).natAbs)]) rfl rfl rfl rfl rfl rfl (by kernel_rfl) (by kernel_rfl) (by decide) (by decide) rfl fun b6 w5 A6 B6 ow5=>?_
 have N2_6:=Nat.ne_of_lt (Nat.lt_of_lt_of_le (lt_of B2) A6)
 have N3_6:=Nat.ne_of_lt (Nat.lt_of_lt_of_le (lt_of B3) A6)
 replace A6:=Nat.le_trans bel.size A6
 replace B2:=(ow5.block b2 (lt_of B2)).trans B2
 replace B3:=(ow5.block b3 (lt_of B3)).trans B3
 replace bel:=bel.trans (ow5.mono bel.size)
 refine wpT_row (S:=Amb Z0 W) rfl (ex_call rfl rfl Tryz.func160 (by kernel_rfl) (by kernel_rfl) (by simp only [List.map_toArray,List.map_cons,List.map_nil]; rfl)) (ivWhY (x:=x) (y:=y) B6 (by first | assumption | omega | (dsimp only at *; omega)) (by first | assumption | omega | (dsimp only at *; omega))) fun b8 c8 u8 vs_ w7 A8 B8 Q8 f_0 ow7=>?_
 obtain ⟨b9,x11,x12,b10,vt_,e_,L9,L10,F9,F_x11,F_x12,F10,f_1⟩:=AllG.cons f_0
 subst e_
 replace L9:Amb Z0 W b9:=L9.elim id (fun h=>.inr (Nat.le_trans bel.size h))
 replace L10:Amb Z0 W b10:=L10.elim id (fun h=>.inr (Nat.le_trans bel.size h))
 replace F_x11:(RatN x.b.re).p (Amb Z0 W) x11 w7:=(RatN x.b.re).mono (fun _ _ h=>h.elim id (fun h=>.inr (Nat.le_trans bel.size h))) F_x11
 replace F_x12:(RatN x.b.im).p (Amb Z0 W) x12 w7:=(RatN x.b.im).mono (fun _ _ h=>h.elim id (fun h=>.inr (Nat.le_trans bel.size h))) F_x12
 obtain ⟨b13,x15,x16,b14,vt_,e_,L13,L14,F13,F_x15,F_x16,F14,f_2⟩:=AllG.cons f_1
 subst e_
 replace L13:Amb Z0 W b13:=L13.elim id (fun h=>.inr (Nat.le_trans bel.size h))
 replace L14:Amb Z0 W b14:=L14.elim id (fun h=>.inr (Nat.le_trans bel.size h))
 replace F_x15:(RatN y.b.re).p (Amb Z0 W) x15 w7:=(RatN y.b.re).mono (fun _ _ h=>h.elim id (fun h=>.inr (Nat.le_trans bel.size h))) F_x15
 replace F_x16:(RatN y.b.im).p (Amb Z0 W) x16 w7:=(RatN y.b.im).mono (fun _ _ h=>h.elim id (fun h=>.inr (Nat.le_trans bel.size h))) F_x16
 obtain rfl:=AllG.nil f_2
 replace A8:=Nat.le_trans bel.size A8
 replace B2:=(ow7.block b2 (lt_of B2)).trans B2
 replace B3:=(ow7.block b3 (lt_of B3)).trans B3
 replace B6:=(ow7.block b6 (lt_of B6)).trans B6
 replace bel:=bel.trans (ow7.mono bel.size)
 refine wpList_as (fr (ciV x::ciV y::sq u1 0 4 (U::U::U::ciV x::ciV y::.slice (some ⟨b6,0,none⟩) 2 2::.tuple #[.slice (some ⟨b8,0,none⟩) 2 c8,.int .i64 0]::us 14))) (by kernel_rfl) ?_
 refine wpT_val rfl (ex_move rfl) ?_
 refine wpT_val (v:=.slice (some ⟨b8,0,none⟩) 2 c8) rfl (x_ex (vs:=#[.slice (some ⟨b8,0,none⟩) 2 c8,.int .i64 0]) rfl) ?_
 refine wpT_val (v:=.int .i64 0) rfl (x_ex (vs:=#[.slice (some ⟨b8,0,none⟩) 2 c8,.int .i64 0]) rfl) ?_
 refine wpT_val rfl (ex_assign rfl) ?_
 refine wpList_as (fr (ciV x::ciV y::sq u1 0 4 (.slice (some ⟨b8,0,none⟩) 2 c8::U::.tuple #[.slice (some ⟨b8,0,none⟩) 2 c8,.int .i64 0]::ciV x::ciV y::.slice (some ⟨b6,0,none⟩) 2 2::.tuple #[.slice (some ⟨b8,0,none⟩) 2 c8,.int .i64 0]::.slice (some ⟨b8,0,none⟩) 2 c8::.int .i64 0::us 12))) (by kernel_rfl) ?_
 refine wpT_val rfl (ex_assign rfl) ?_
 refine wpList_as (fr (ciV x::ciV y::sq u1 0 4 (.slice (some ⟨b8,0,none⟩) 2 c8::.int .i64 0::.tuple #[.slice (some ⟨b8,0,none⟩) 2 c8,.int .i64 0]::ciV x::ciV y::.slice (some ⟨b6,0,none⟩) 2 2::.tuple #[.slice (some ⟨b8,0,none⟩) 2 c8,.int .i64 0]::.slice (some ⟨b8,0,none⟩) 2 c8::.int .i64 0::us 12))) (by kernel_rfl) ?_
 refine wpList_nil ?_
 show _
 refine K4 _ _ ?_
 refine wp_seq_k fun _ K17=>?_
 refine gs 2 (Amb Z0 W) fun _ K18=>?_
 refine .mz rfl 7 (V:=.int .i64 0) rfl ?_
 refine .e rfl (V:=.bool false) (fun H=>x_cm (H.g 15 0) (H.c _) (bne_self_eq_false (show Int from 0))) ?_
 refine .dk (fun u=>ciV x::ciV y::sq u1 0 4 (.slice (some ⟨b8,0,none⟩) 2 c8::.int .i64 0::.tuple #[.slice (some ⟨b8,0,none⟩) 2 c8,.int .i64 0]::ciV x::ciV y::.slice (some ⟨b6,0,none⟩) 2 2::.tuple #[.slice (some ⟨b8,0,none⟩) 2 c8,.int .i64 0]::.slice (some ⟨b8,0,none⟩) 2 c8::.int .i64 0::u 0::u 1::us 10)) K18 bel fun u3 w3 D bel=>?_
 have E3_1:=D.q 1
 replace F9:=D.o L9 F9
 replace F10:=D.o L10 F10
 replace F13:=D.o L13 F13
 replace F14:=D.o L14 F14
 replace B8:=D.k B8
 replace F_x11:=D.gr (RatN x.b.re) F_x11
 replace F_x12:=D.gr (RatN x.b.im) F_x12
 replace F_x15:=D.gr (RatN y.b.re) F_x15
 replace F_x16:=D.gr (RatN y.b.im) F_x16
 clear D
 refine wp_cond_false (by exact E3_1) ?_
 refine wp_skip ?_
 refine K17 _ _ ?_
 refine gd 11 (Amb Z0 W) fun _ K19=>?_
 refine .mz rfl 6 (V:=.slice (some ⟨b8,0,none⟩) 2 c8) rfl ?_
 refine .e rfl (V:=pt b8) (fun H=>x_ixs 4 (H.g 18 0) (H.c (.int .i64 0))) ?_
 refine .e rfl (V:=.agg #[pt b9,x11,x12,pt b10]) (fun H=>x_ldq (vs:=[pt b9,x11,x12,pt b10,pt b13,x15,x16,pt b14]) (us:=[pt b9,x11,x12,pt b10]) (H.g 19 1) (H.b B8) Q8) ?_
 refine .mz rfl 6 (V:=.slice (some ⟨b8,0,none⟩) 2 c8) rfl ?_
 refine .e rfl (V:=.pointer (some ⟨b8,4,none⟩)) (fun H=>x_ixs 4 (H.g 21 3) (H.c (.int .i64 1))) ?_
 refine .e rfl (V:=.agg #[pt b13,x15,x16,pt b14]) (fun H=>x_ldq (vs:=[pt b9,x11,x12,pt b10,pt b13,x15,x16,pt b14]) (us:=[pt b13,x15,x16,pt b14]) (H.g 22 4) (H.b B8) Q8) ?_
 refine .cR rfl [] Tryz.func161 (fun H=>⟨_,ar2 (H.g 20 2) (H.g 23 5),ivProd x y (RingP.mk (H.was _ [] (VP.at F9 L9)) (H.was _ [] F_x11) (H.was _ [] F_x12) (H.was _ [] (VP.at F10 L10))) (RingP.mk (H.was _ [] (VP.at F13 L13)) (H.was _ [] F_x15) (H.was _ [] F_x16) (H.was _ [] (VP.at F14 L14))) (by first | assumption | omega | (dsimp only at *; omega))⟩) ?_
 refine .cK rfl Tryz.func140 (fun H=>⟨_,ar1 (H.r 24 6),qSign _ (SV.any (H.a 6 rfl))⟩) ?_
 refine .e rfl (V:=.bool (((x.dot y).num.sign) == 0)) (fun H=>x_cmp (H.g 25 7) (H.c _)) ?_
 refine .mv rfl 8 ?_
 refine .mc rfl ?_
 refine .dk (fun u=>ciV x::ciV y::u1 0::u1 1::u 9::u 10::.slice (some ⟨b8,0,none⟩) 2 c8::.int .i64 0::.tuple #[.slice (some ⟨b8,0,none⟩) 2 c8,.int .i64 0]::ciV x::ciV y::.slice (some ⟨b6,0,none⟩) 2 2::.tuple #[.slice (some ⟨b8,0,none⟩) 2 c8,.int .i64 0]::.slice (some ⟨b8,0,none⟩) 2 c8::.int .i64 0::u3 0::u3 1::U::sq u 0 9 []) K19 bel fun u4 w4 D bel=>?_
 have E4_9:=D.q 9
 have E4_10:=D.q 10
 clear D
 refine wp_ret ?_
 refine ret_ok rfl (by exact results_two rfl (by exact E4_9) (by exact E4_10)) (RetV.mk ?_ bel)
 exact congrArg Ending.returned (rfl)
end Go.Proofs.YtcpjdjnaipbieaaGreat
namespace Go.Proofs.YtcpjdjnaipbieaaGreat
open Go.RowKit Rgn Eng
set_option maxHeartbeats 8000000
set_option maxRecDepth 100000
variable {S:Nat → Prop} {W:World}
theorem ivOvO (c:Ci) (p0:ciOk (rci c) = true):Calls Tryz.prog 31 #[ciV c] W (RetV (.tuple #[rmbV (mbcut c.over.nrm),.int .i64 (mberr c.over.nrm)]) W):=by
 have f1:=cifits_ht (ciOk_c p0).1
 refine Run.goP (S:=Z0) (Pack.nil.k (ciV c) (ciC c).toList (.s (.agg (ks 0 16)))) Tryz.func31 rfl ?_
 refine Run.cR (spRingC true) (fun _ _ _ H=>eWheelO c p0) ?_
 refine Run.cR spMat (fun _ _ _ H=>iOver c (RingP.mk (H.f 0) (H.f 1) (H.f 2) (H.f 3)) (by first | assumption | omega | exact over_piv (ciOk_c p0).2.1 | (refine over_le ?_; omega) | (dsimp only at *; omega))) ?_
 refine Run.cV ((rmbC (mbcut c.over.nrm)).toList ++ [.int .i64 (mberr c.over.nrm)]) (.tup [.agg (ks 0 33),.o (.k 33)]) (fun _ _ _ H=>mtTold c.over (MatP.mk (H.f 4) (H.f 5) (H.f 6) (H.f 7) (H.f 8) (H.f 9) (H.f 10) (H.f 11)) (by first | assumption | omega | exact over_piv (ciOk_c p0).2.1 | (refine over_le ?_; omega) | (dsimp only at *; omega)) (by first | assumption | omega | exact over_piv (ciOk_c p0).2.1 | (refine over_le ?_; omega) | (dsimp only at *; omega))) ?_
 exact Run.rV rfl
theorem ivOvN (r:RCi) (p0:ciOk r = false):Calls Tryz.prog 31 #[rciV r] W (RetV (.tuple #[rmbV rzMb,.int .i64 2]) W):=by
 refine Run.goP (S:=Z0) (Pack.nil.k (rciV r) (rciC r).toList (.s (.agg (ks 0 16)))) Tryz.func31 rfl ?_
 refine Run.cR (spRingJC false) (fun _ _ _ H=>eWheelN r p0) ?_
 exact Run.rV rfl
end Go.Proofs.YtcpjdjnaipbieaaGreat
namespace Go.Proofs.YtcpjdjnaipbieaaGreat
open Go.RowKit Rgn
theorem over_l2 {k:Ci} (h:ht k.a + ht k.b.re + ht k.b.im + ht k.c ≤ 40000):ht k.over.a.re + ht k.over.a.im + ht k.over.b.re + ht k.over.b.im + ht k.over.c.re + ht k.over.c.im + ht k.over.d.re + ht k.over.d.im ≤ 200000:=by
 have h1:=ht_neg k.b.re
 have h2:=ht_neg (-k.b.im)
 have h3:=ht_neg k.b.im
 have h4:=ht_neg k.c
 have h5:=ht_zero
 show ht (-k.b.re) + ht (- -k.b.im) + ht (-k.c) + ht (0:Rat) + ht k.a + ht (0:Rat) + ht k.b.re + ht k.b.im ≤ _
 omega
theorem send_le {m:Mb} {p:Pn} (h:ht m.a.re + ht m.a.im + ht m.b.re + ht m.b.im + ht m.c.re + ht m.c.im + ht m.d.re + ht m.d.im ≤ 200000) (hp:ht p.z.re + ht p.z.im ≤ 200000):ht (m.send p).z.re + ht (m.send p).z.im ≤ 67108864:=by
 have z0:=ht_zero
 have key:∀ a b:Cx,ht a.re + ht a.im ≤ 2000000 → ht b.re + ht b.im ≤ 2000000 → ht (a.div b).re + ht (a.div b).im ≤ 67108864:=by
  intro a b h1 h2
  have h3:=hc_div a b
  omega
 have h1:=hc_conj p.z
 have h2:=hc_mul m.a p.z
 have h3:=hc_mul m.c p.z
 have h4:=hc_mul m.a p.z.conj
 have h5:=hc_mul m.c p.z.conj
 have h6:=hc_add (m.a.mul p.z) m.b
 have h7:=hc_add (m.c.mul p.z) m.d
 have h8:=hc_add (m.a.mul p.z.conj) m.b
 have h9:=hc_add (m.c.mul p.z.conj) m.d
 have hput:ht (m.put p).1.re + ht (m.put p).1.im ≤ 2000000 ∧ ht (m.put p).2.re + ht (m.put p).2.im ≤ 2000000:=by
  cases e:(!p.inf) with
  | false =>
   rw [put_i e]
   show ht m.a.re + ht m.a.im ≤ _ ∧ ht m.c.re + ht m.c.im ≤ _
   omega
  | true=>cases t:m.t with
   | true =>
    rw [put_n1 e t]
    show ht ((m.a.mul p.z.conj).add m.b).re + ht ((m.a.mul p.z.conj).add m.b).im ≤ _ ∧ ht ((m.c.mul p.z.conj).add m.d).re + ht ((m.c.mul p.z.conj).add m.d).im ≤ _
    omega
   | false =>
    rw [put_n0 e t]
    show ht ((m.a.mul p.z).add m.b).re + ht ((m.a.mul p.z).add m.b).im ≤ _ ∧ ht ((m.c.mul p.z).add m.d).re + ht ((m.c.mul p.z).add m.d).im ≤ _
    omega
 unfold Mb.send
 split
 ·show ht (0:Rat) + ht (0:Rat) ≤ _
  omega
 ·exact key _ _ hput.1 hput.2
end Go.Proofs.YtcpjdjnaipbieaaGreat
namespace Go.Proofs.YtcpjdjnaipbieaaGreat
open Go.RowKit Rgn Eng
set_option maxHeartbeats 8000000
set_option maxRecDepth 100000
variable {S:Nat → Prop} {W:World}
theorem mtUndo {v0:Value} (m:Mb) (t0:(MatP m).p S v0 W) (p0:ht m.a.re + ht m.a.im + ht m.b.re + ht m.b.im + ht m.c.re + ht m.c.im + ht m.d.re + ht m.d.im ≤ 268435456) (p1:m.det.zero = false):Calls Tryz.prog 193 #[v0] W (Ret (MatP m.undo) S W):=by
 have h1:=hc_neg m.b
 have h2:=hc_neg m.c
 have h3:=hc_conj m.d
 have h4:=hc_conj m.a
 have h5:=hc_conj m.b.neg
 have h6:=hc_conj m.c.neg
 refine Run.goP (S:=S) (Pack.nil.s spMat t0) Tryz.func193 rfl ?_
 refine Run.dr ?_
 refine RunD.cR spNum (fun _ _ _ H=>eNeg m.b (NumP.mk (H.f 2) (H.f 3)) (by first | omega | (dsimp only at *; omega) | exact undo_p1 p1 _ | exact undo_p0 p1 _)) ?_
 refine RunD.cR spNum (fun _ _ _ H=>eNeg m.c (NumP.mk (H.f 4) (H.f 5)) (by first | omega | (dsimp only at *; omega) | exact undo_p1 p1 _ | exact undo_p0 p1 _)) ?_
 refine RunD.en ?_
 refine (Bool.eq_false_or_eq_true (m.t)).elim (fun c1=>?_) (fun c1=>?_)
 · refine Run.kn c1 ?_
   refine Run.dr ?_
   refine RunD.cR spNum (fun _ _ _ H=>eConj m.d (NumP.mk (H.f 6) (H.f 7)) (by first | omega | (dsimp only at *; omega) | exact undo_p1 p1 c1 | exact undo_p0 p1 c1)) ?_
   refine RunD.cR spNum (fun _ _ _ H=>eConj m.b.neg (NumP.mk (H.f 8) (H.f 9)) (by first | omega | (dsimp only at *; omega) | exact undo_p1 p1 c1 | exact undo_p0 p1 c1)) ?_
   refine RunD.cR spNum (fun _ _ _ H=>eConj m.c.neg (NumP.mk (H.f 10) (H.f 11)) (by first | omega | (dsimp only at *; omega) | exact undo_p1 p1 c1 | exact undo_p0 p1 c1)) ?_
   refine RunD.cR spNum (fun _ _ _ H=>eConj m.a (NumP.mk (H.f 0) (H.f 1)) (by first | omega | (dsimp only at *; omega) | exact undo_p1 p1 c1 | exact undo_p0 p1 c1)) ?_
   refine RunD.en ?_
   refine Run.cR spMat (fun _ _ _ H=>mtNorm (Mb.mk m.d.conj m.b.neg.conj m.c.neg.conj m.a.conj m.t) (MatP.mk (H.f 12) (H.f 13) (H.f 14) (H.f 15) (H.f 16) (H.f 17) (H.f 18) (H.f 19)) (by first | omega | (dsimp only at *; omega) | exact undo_p1 p1 c1 | exact undo_p0 p1 c1) (by first | omega | (dsimp only at *; omega) | exact undo_p1 p1 c1 | exact undo_p0 p1 c1)) ?_
   exact Run.rR (fun _ _ _ H=>VPe (φ:=MatP) (undo_1 c1) (MatP.mk (H.f 20) (H.f 21) (H.f 22) (H.f 23) (H.f 24) (H.f 25) (H.f 26) (H.f 27)))
 · refine Run.kn c1 ?_
   refine Run.cR spMat (fun _ _ _ H=>mtNorm (Mb.mk m.d m.b.neg m.c.neg m.a m.t) (MatP.mk (H.f 6) (H.f 7) (H.f 8) (H.f 9) (H.f 10) (H.f 11) (H.f 0) (H.f 1)) (by first | omega | (dsimp only at *; omega) | exact undo_p1 p1 c1 | exact undo_p0 p1 c1) (by first | omega | (dsimp only at *; omega) | exact undo_p1 p1 c1 | exact undo_p0 p1 c1)) ?_
   exact Run.rR (fun _ _ _ H=>VPe (φ:=MatP) (undo_0 c1) (MatP.mk (H.f 12) (H.f 13) (H.f 14) (H.f 15) (H.f 16) (H.f 17) (H.f 18) (H.f 19)))
theorem mtSend {v0 v1:Value} (m:Mb) (p:Pn) (t0:(MatP m).p S v0 W) (t1:(PlaceP p).p S v1 W) (p0:ht m.a.re + ht m.a.im + ht m.b.re + ht m.b.im + ht m.c.re + ht m.c.im + ht m.d.re + ht m.d.im + (ht p.z.re + ht p.z.im) ≤ 67108864):Calls Tryz.prog 157 #[v0,v1] W (Ret (PlaceP (m.send p)) S W):=by
 have h1:=hc_conj p.z
 have h2:=hc_mul m.a p.z
 have h3:=hc_mul m.c p.z
 have h4:=hc_mul m.a p.z.conj
 have h5:=hc_mul m.c p.z.conj
 have h6:=hc_add (m.a.mul p.z) m.b
 have h7:=hc_add (m.c.mul p.z) m.d
 have h8:=hc_add (m.a.mul p.z.conj) m.b
 have h9:=hc_add (m.c.mul p.z.conj) m.d
 refine Run.goP (S:=S) ((Pack.nil.s spMat t0).s spPlace t1) Tryz.func157 rfl ?_
 refine Run.dr ?_
 refine RunD.en ?_
 refine (Bool.eq_false_or_eq_true (p.inf)).elim (fun c1=>?_) (fun c1=>?_)
 · refine Run.kn c1 ?_
   refine Run.cV [.bool m.c.zero] kb (fun _ _ _ H=>eZero m.c (NumP.mk (H.f 4) (H.f 5))) ?_
   refine (Bool.eq_false_or_eq_true (m.c.zero)).elim (fun c2=>?_) (fun c2=>?_)
   · refine Run.kn c2 ?_
     exact Run.rR (fun _ _ _ H=>VPe (φ:=PlaceP) (send_iT (by rw [c1]; rfl) c2) (PlaceP.mk (RatN.nil rfl) (RatN.nil rfl)))
   · refine Run.kn c2 ?_
     refine Run.cR spNum (fun _ _ _ H=>eDiv m.a m.c (NumP.mk (H.f 0) (H.f 1)) (NumP.mk (H.f 4) (H.f 5)) (by first | omega | (dsimp only at *; omega) | exact zero_norm _ | exact zero_norm c2) (by first | omega | (dsimp only at *; omega) | exact zero_norm _ | exact zero_norm c2)) ?_
     exact Run.rR (fun _ _ _ H=>VPe (φ:=PlaceP) (send_iF (by rw [c1]; rfl) c2) (PlaceP.mk (H.f 10) (H.f 11)))
 · refine Run.kn c1 ?_
   refine (Bool.eq_false_or_eq_true (m.t)).elim (fun c3=>?_) (fun c3=>?_)
   · refine Run.kn c3 ?_
     refine Run.cR spNum (fun _ _ _ H=>eConj p.z (NumP.mk (H.f 8) (H.f 9)) (by first | omega | (dsimp only at *; omega) | exact zero_norm _ | exact zero_norm c3)) ?_
     refine Run.dr ?_
     refine RunD.cR spNum (fun _ _ _ H=>eNMul m.a p.z.conj (NumP.mk (H.f 0) (H.f 1)) (NumP.mk (H.f 10) (H.f 11)) (by first | omega | (dsimp only at *; omega) | exact zero_norm _ | exact zero_norm c3)) ?_
     refine RunD.cR spNum (fun _ _ _ H=>eAdd (m.a.mul p.z.conj) m.b (NumP.mk (H.f 12) (H.f 13)) (NumP.mk (H.f 2) (H.f 3)) (by first | omega | (dsimp only at *; omega) | exact zero_norm _ | exact zero_norm c3)) ?_
     refine RunD.cR spNum (fun _ _ _ H=>eNMul m.c p.z.conj (NumP.mk (H.f 4) (H.f 5)) (NumP.mk (H.f 10) (H.f 11)) (by first | omega | (dsimp only at *; omega) | exact zero_norm _ | exact zero_norm c3)) ?_
     refine RunD.cR spNum (fun _ _ _ H=>eAdd (m.c.mul p.z.conj) m.d (NumP.mk (H.f 16) (H.f 17)) (NumP.mk (H.f 6) (H.f 7)) (by first | omega | (dsimp only at *; omega) | exact zero_norm _ | exact zero_norm c3)) ?_
     refine RunD.en ?_
     refine Run.cV [.bool (((m.c.mul p.z.conj).add m.d).zero)] kb (fun _ _ _ H=>eZero ((m.c.mul p.z.conj).add m.d) (NumP.mk (H.f 18) (H.f 19))) ?_
     refine (Bool.eq_false_or_eq_true (((m.c.mul p.z.conj).add m.d).zero)).elim (fun c4=>?_) (fun c4=>?_)
     · refine Run.kn c4 ?_
       exact Run.rR (fun _ _ _ H=>VPe (φ:=PlaceP) (send_n1T (by rw [c1]; rfl) c3 c4) (PlaceP.mk (RatN.nil rfl) (RatN.nil rfl)))
     · refine Run.kn c4 ?_
       refine Run.cR spNum (fun _ _ _ H=>eDiv ((m.a.mul p.z.conj).add m.b) ((m.c.mul p.z.conj).add m.d) (NumP.mk (H.f 14) (H.f 15)) (NumP.mk (H.f 18) (H.f 19)) (by first | omega | (dsimp only at *; omega) | exact zero_norm c4 | exact zero_norm c3) (by first | omega | (dsimp only at *; omega) | exact zero_norm c4 | exact zero_norm c3)) ?_
       exact Run.rR (fun _ _ _ H=>VPe (φ:=PlaceP) (send_n1F (by rw [c1]; rfl) c3 c4) (PlaceP.mk (H.f 20) (H.f 21)))
   · refine Run.kn c3 ?_
     refine Run.dr ?_
     refine RunD.cR spNum (fun _ _ _ H=>eNMul m.a p.z (NumP.mk (H.f 0) (H.f 1)) (NumP.mk (H.f 8) (H.f 9)) (by first | omega | (dsimp only at *; omega) | exact zero_norm _ | exact zero_norm c3)) ?_
     refine RunD.cR spNum (fun _ _ _ H=>eAdd (m.a.mul p.z) m.b (NumP.mk (H.f 10) (H.f 11)) (NumP.mk (H.f 2) (H.f 3)) (by first | omega | (dsimp only at *; omega) | exact zero_norm _ | exact zero_norm c3)) ?_
     refine RunD.cR spNum (fun _ _ _ H=>eNMul m.c p.z (NumP.mk (H.f 4) (H.f 5)) (NumP.mk (H.f 8) (H.f 9)) (by first | omega | (dsimp only at *; omega) | exact zero_norm _ | exact zero_norm c3)) ?_
     refine RunD.cR spNum (fun _ _ _ H=>eAdd (m.c.mul p.z) m.d (NumP.mk (H.f 14) (H.f 15)) (NumP.mk (H.f 6) (H.f 7)) (by first | omega | (dsimp only at *; omega) | exact zero_norm _ | exact zero_norm c3)) ?_
     refine RunD.en ?_
     refine Run.cV [.bool (((m.c.mul p.z).add m.d).zero)] kb (fun _ _ _ H=>eZero ((m.c.mul p.z).add m.d) (NumP.mk (H.f 16) (H.f 17))) ?_
     refine (Bool.eq_false_or_eq_true (((m.c.mul p.z).add m.d).zero)).elim (fun c5=>?_) (fun c5=>?_)
     · refine Run.kn c5 ?_
       exact Run.rR (fun _ _ _ H=>VPe (φ:=PlaceP) (send_n0T (by rw [c1]; rfl) c3 c5) (PlaceP.mk (RatN.nil rfl) (RatN.nil rfl)))
     · refine Run.kn c5 ?_
       refine Run.cR spNum (fun _ _ _ H=>eDiv ((m.a.mul p.z).add m.b) ((m.c.mul p.z).add m.d) (NumP.mk (H.f 12) (H.f 13)) (NumP.mk (H.f 16) (H.f 17)) (by first | omega | (dsimp only at *; omega) | exact zero_norm c5 | exact zero_norm c3) (by first | omega | (dsimp only at *; omega) | exact zero_norm c5 | exact zero_norm c3)) ?_
       exact Run.rR (fun _ _ _ H=>VPe (φ:=PlaceP) (send_n0F (by rw [c1]; rfl) c3 c5) (PlaceP.mk (H.f 18) (H.f 19)))
end Go.Proofs.YtcpjdjnaipbieaaGreat
namespace Go.Proofs.YtcpjdjnaipbieaaGreat
open Go.RowKit Rgn
set_option maxHeartbeats 1000000
set_option maxRecDepth 100000
variable {S:Nat → Prop} {W:World}
theorem ivPtZ (c:Ci) (z:Cx) (p0:ciOk (rci c) = true) (p1:gfits (rg z) = true) :
  Calls Tryz.prog 32 #[ciV c,pnV (Pn.mk false z)] W (RetV (.tuple #[.agg #[.bool ((pncut (c.over.send (Pn.mk false z))).inf),.bool ((((pncut (c.over.send (Pn.mk false z))).z).re).a).n,.string ((((pncut (c.over.send (Pn.mk false z))).z).re).a).s,.bool ((((pncut (c.over.send (Pn.mk false z))).z).re).b).n,.string ((((pncut (c.over.send (Pn.mk false z))).z).re).b).s,.bool ((((pncut (c.over.send (Pn.mk false z))).z).im).a).n,.string ((((pncut (c.over.send (Pn.mk false z))).z).im).a).s,.bool ((((pncut (c.over.send (Pn.mk false z))).z).im).b).n,.string ((((pncut (c.over.send (Pn.mk false z))).z).im).b).s],.int .i64 (pnerr (c.over.send (Pn.mk false z)))]) W):=by
 have f3:ht z.re + ht z.im ≤ 20000:=gfits_ht2 p1
 have f1:=cifits_ht (ciOk_c p0).1
 have f2:=over_l2 f1
 have f4:ht c.over.a.re + ht c.over.a.im + ht c.over.b.re + ht c.over.b.im + ht c.over.c.re + ht c.over.c.im + ht c.over.d.re + ht c.over.d.im + (ht (Pn.mk false z).z.re + ht (Pn.mk false z).z.im) ≤ 67108864:=Nat.le_trans (Nat.add_le_add f2 (f3)) (by decide)
 have f5:ht (c.over.send (Pn.mk false z)).z.re + ht (c.over.send (Pn.mk false z)).z.im ≤ 1073741824:=Nat.le_trans (send_le f2 (Nat.le_trans (f3) (by decide))) (by decide)
 clear f2
 have bel:=b0 W
 go_enter Tryz.func32,Tryz.ntmps32
 refine gs 4 (Amb Z0 W) fun _ K1=>?_
 refine .bx rfl (fun H=>H.v 0 (ciV c)) ?_
 refine .bx rfl (fun H=>H.v 1 (pnV (Pn.mk false z))) ?_
 refine .al rfl zPn ?_
 refine .mc rfl ?_
 refine .dk (fun u=>ciV c::pnV (Pn.mk false z)::sq u 0 4 (us 28)) K1 bel fun u1 w1 D bel=>?_
 obtain ⟨b2,E1_0,A2,B2⟩:=D.nw 0
 obtain ⟨b3,E1_1,A3,B3⟩:=D.nw 1
 obtain ⟨b4,E1_2,A4,B4⟩:=D.nw 2
 have E1_3:=D.q 3
 have N2_4:=D.n2 0 2 E1_0 E1_2
 have N3_4:=D.n2 1 2 E1_1 E1_2
 clear D
 refine gs 8 (Amb Z0 W) fun _ K5=>?_
 refine .lr rfl 2 E1_0 B2 ?_
 refine .cR rfl [] Tryz.func155 (fun H=>⟨_,ar1 (H.g 11 0),eWheelO _ (by first | omega | assumption)⟩) ?_
 refine .mn rfl 1 [1] ?_
 refine Go2.fn (i:=3) rfl (G0 rfl) (.val 3 [1,2] (RingP c)) (fun u μ ρ H=>by have e10:=H.r 10 2; have h0:=(H.a 2 rfl); obtain ⟨x0,x1,h1,h2⟩:=h0; rw [h1] at e10; exact ⟨x0,by clear H; go_simp,SP.tupKeep (by decide) (by decide) h2.1⟩) ?_
 refine .e rfl (V:=.bool true) (fun H=>by have e10:=H.r 10 2; have h0:=(H.a 2 rfl); obtain ⟨x0,x1,h1,h2,h3⟩:=h0; rw [h1] at e10; have h3:x1 = .bool true:=h3; subst h3; clear H; go_simp) ?_
 refine .al rfl (#[.pointer none,.pointer none,.pointer none,.pointer none]) ?_
 refine Go2.storeOwn (i:=6) (m:=5) rfl rfl (.head _) (SP.cells 5 [3] (fun u=>#[((u 3).v.cells.getD 0 undef),((u 3).v.cells.getD 1 undef),((u 3).v.cells.getD 2 undef),((u 3).v.cells.getD 3 undef)]) 203 (by intro u u' h; simp [h 3 (by simp)])) (fun u μ ρ b H h0 hB hb=>?_) ?_
 · have e6:=H.r 6 5; have e13:=H.r 13 3
   rw [h0] at e6
   obtain ⟨x1,x2,x3,x4,h1,h2,h3,h4,h5⟩:=(H.a 3 rfl)
   have o1:=VP1.rat h2
   have o2:=VP1.ratn h3
   have o3:=VP1.ratn h4
   have o4:=VP1.rat h5
   rw [h1] at e13
   refine ⟨μ.setRow b #[x1,x2,x3,x4],ex_store_row 203 _ _ rfl e6 e13 hb (by kernel_rfl) rfl (by simp [o1,o2,o3,o4] <;> rfl),fun g=>⟨b,?_,hB,?_⟩,setRow_only _ _ _⟩
   · rw [upd_other _ _ (by decide)]; exact h0
   · rw [setRow_at hb]; try simp [upd,h1,Value.cells]
 refine .mv rfl 4 ?_
 refine .dk (fun u=>ciV c::pnV (Pn.mk false z)::sq u1 0 4 (u 5::u 7::U::U::u 2::u 0::u 1::u 3::u 4::us 19)) K5 bel fun u2 w2 D bel=>?_
 obtain ⟨b6,x7,x8,b9,E2_3,L6,L9,F6,F_x7,F_x8,F9⟩:=RingP.elim (D.rr 3)
 obtain ⟨b10,E2_5,A10,B10⟩:=(D.a 6 rfl)
 replace A10:=le2 D.le A10
 have E2_7:=D.q 7
 have N4_10:=D.n1 5 (lt_of B4) E2_5
 replace B3:=D.k B3
 replace B4:=D.k B4
 simp only [Value.cells,E2_3,E2_5] at B10
 replace B10:w2.heap[b10]? = some (.cells #[pt b6,x7,x8,pt b9] 203 (0,0)):=B10
 clear D
 refine gs 8 (Amb Z0 W) fun _ K11=>?_
 refine .lr rfl 3 E1_1 B3 ?_
 refine .cR rfl [] Tryz.func156 (fun H=>⟨_,ar1 (H.g 16 0),eSpotZ z (by first | omega | assumption)⟩) ?_
 refine .mn rfl 1 [1] ?_
 refine Go2.fn (i:=3) rfl (G0 rfl) (.val 3 [1,2] (PlaceP (Pn.mk false z))) (fun u μ ρ H=>by have e15:=H.r 15 2; have h0:=(H.a 2 rfl); obtain ⟨x0,x1,h1,h2⟩:=h0; rw [h1] at e15; exact ⟨x0,by clear H; go_simp,SP.tupKeep (by decide) (by decide) h2.1⟩) ?_
 refine .e rfl (V:=.bool true) (fun H=>by have e15:=H.r 15 2; have h0:=(H.a 2 rfl); obtain ⟨x0,x1,h1,h2,h3⟩:=h0; rw [h1] at e15; have h3:x1 = .bool true:=h3; subst h3; clear H; go_simp) ?_
 refine .al rfl (#[.bool false,.pointer none,.pointer none]) ?_
 refine Go2.storeOwn (i:=6) (m:=5) rfl rfl (.head _) (SP.cells 5 [3] (fun u=>#[.bool ((Pn.mk false z).inf),((u 3).v.cells.getD 1 undef),((u 3).v.cells.getD 2 undef)]) 229 (by intro u u' h; simp [h 3 (by simp)])) (fun u μ ρ b H h0 hB hb=>?_) ?_
 · have e8:=H.r 8 5; have e18:=H.r 18 3
   rw [h0] at e8
   obtain ⟨x2,x3,h1,h3,h4⟩:=(H.a 3 rfl)
   have o2:=VP1.ratn h3
   have o3:=VP1.ratn h4
   rw [h1] at e18
   refine ⟨μ.setRow b #[.bool ((Pn.mk false z).inf),x2,x3],ex_store_row 229 _ _ rfl e8 e18 hb (by kernel_rfl) rfl (by simp [o2,o3] <;> rfl),fun g=>⟨b,?_,hB,?_⟩,setRow_only _ _ _⟩
   · rw [upd_other _ _ (by decide)]; exact h0
   · rw [setRow_at hb]; try simp [upd,h1,Value.cells]
 refine .mv rfl 4 ?_
 refine .dk (fun u=>ciV c::pnV (Pn.mk false z)::sq u1 0 4 (u2 5::u2 7::u 5::u 7::u2 2::u2 0::u2 1::u2 3::u2 4::u 2::u 0::u 1::u 3::u 4::us 14)) K11 bel fun u3 w3 D bel=>?_
 obtain ⟨x12,x13,E3_3,F_x12,F_x13⟩:=(D.rr 3)
 obtain ⟨b14,E3_5,A14,B14⟩:=(D.a 6 rfl)
 replace A14:=le2 D.le A14
 have E3_7:=D.q 7
 have N4_14:=D.n1 5 (lt_of B4) E3_5
 replace B4:=D.k B4
 replace B10:=D.k B10
 simp only [Value.cells,E3_3,E3_5] at B14
 replace B14:w3.heap[b14]? = some (.cells #[.bool ((Pn.mk false z).inf),x12,x13] 229 (0,0)):=B14
 replace F6:=D.o L6 F6
 replace F9:=D.o L9 F9
 replace F_x7:=D.gr (RatN c.b.re) F_x7
 replace F_x8:=D.gr (RatN c.b.im) F_x8
 clear D
 refine wp_seq_k fun _ K15=>?_
 refine gs 6 (Amb Z0 W) fun _ K16=>?_
 refine .mz rfl 7 E2_7 ?_
 refine .e rfl (V:=.bool false) (fun H=>x_not (H.g 20 0)) ?_
 refine .mv rfl 1 ?_
 refine .mz rfl 9 E3_7 ?_ (hg:=gq 2 rfl)
 refine .e rfl (V:=.bool false) (fun H=>x_not (H.g 23 3)) ?_ (hg:=gq 2 rfl)
 refine .e rfl (fun H=>x_pkF (H.g 22 2) (H.g 24 4)) ?_
 refine .dk (fun u=>ciV c::pnV (Pn.mk false z)::sq u1 0 4 (u2 5::u2 7::u3 5::u3 7::u2 2::u2 0::u2 1::u2 3::u2 4::u3 2::u3 0::u3 1::u3 3::u3 4::sq u 0 6 (us 8))) K16 bel fun u4 w4 D bel=>?_
 have E4_5:=D.q 5
 replace B4:=D.k B4
 replace B10:=D.k B10
 replace B14:=D.k B14
 replace F6:=D.o L6 F6
 replace F9:=D.o L9 F9
 replace F_x7:=D.gr (RatN c.b.re) F_x7
 replace F_x8:=D.gr (RatN c.b.im) F_x8
 replace F_x12:=D.gr (RatN (((Pn.mk false z).z).re)) F_x12
 replace F_x13:=D.gr (RatN (((Pn.mk false z).z).im)) F_x13
 clear D
 refine wp_cond_false (by exact E4_5) ?_
 refine wp_skip ?_
 refine K15 _ _ ?_
 refine gd1 9 (Amb Z0 W) 7 B4 fun _ K17=>?_
 refine .e rfl (fun H=>x_ldr (H.z 6 E2_5) (H.b1 B10 N4_10)) ?_
 refine .cR rfl [] Tryz.func143 (fun H=>⟨_,ar1 (H.g 27 0),iOver c (RingP.mk (H.was _ [] (VP.at F6 L6)) (H.was _ [] F_x7) (H.was _ [] F_x8) (H.was _ [] (VP.at F9 L9))) (by first | omega | assumption)⟩) ?_
 refine .e rfl (fun H=>x_ldr (H.z 8 E3_5) (H.b1 B14 N4_14)) ?_
 refine .cR rfl [1] Tryz.func157 (fun H=>⟨_,ar2 (H.r 28 1) (H.g 29 2),mtSend c.over (Pn.mk false z) (SV.sub [1] (H.a 1 rfl) rfl) (PlaceP.mk (H.was _ [1] F_x12) (H.was _ [1] F_x13)) (by first | omega | assumption)⟩) ?_
 refine .cK rfl Tryz.func158 (fun H=>⟨_,ar1 (H.r 30 3),plTold (c.over.send (Pn.mk false z)) (SV.any (H.a 3 rfl)) (by first | omega | assumption)⟩) ?_
 refine .e rfl (V:=rpnV (pncut (c.over.send (Pn.mk false z)))) (fun H=>x_ex (H.g 31 4)) ?_
 refine .e rfl (V:=.int .i64 (pnerr (c.over.send (Pn.mk false z)))) (fun H=>x_ex (H.g 31 4)) ?_
 refine .s1 rfl B4 (fun H=>⟨H.z 4 E1_2,H.g 32 5⟩) ?_
 refine .mv rfl 6 ?_
 refine .d1 (fun u=>ciV c::pnV (Pn.mk false z)::sq u1 0 3 (u 8::u2 5::u2 7::u3 5::u3 7::u2 2::u2 0::u2 1::u2 3::u2 4::u3 2::u3 0::u3 1::u3 3::u3 4::sq u4 0 6 (U::sq u 0 7 []))) K17 bel A4 fun u5 w5 D bel=>?_
 have E5_8:=D.q 8
 replace B4:=D.ol 7
 clear D
 refine wp_ret ?_
 refine ret_ok rfl (by exact results_mix rfl (by exact E1_2) B4 Tryz.underlying56 rfl (by kernel_rfl) (by exact E5_8)) (RetV.mk ?_ bel)
 exact congrArg Ending.returned (rfl)
end Go.Proofs.YtcpjdjnaipbieaaGreat
namespace Go.Proofs.YtcpjdjnaipbieaaGreat
open Go.RowKit Rgn
abbrev lineM:Mb:=⟨Cx.ofInt (1:Int) (0:Int),Cx.ofInt (0:Int) (0:Int),Cx.ofInt (0:Int) (0:Int),Cx.ofInt (1:Int) (0:Int),true⟩
theorem fits_c {q:Rat} (h:ht q = 2):fits (rf q) = true:=fits_ht (by omega)
theorem gfits_c {a b:Int} (h1:ht (a:Rat) = 2) (h2:ht (b:Rat) = 2):gfits (rg (Cx.ofInt a b)) = true:=gfits_ht (z:=Cx.ofInt a b) ⟨by show ht (a:Rat) ≤ _; omega,by show ht (b:Rat) ≤ _; omega⟩
theorem ht_c0:ht ((0:Int):Rat) = 2:=by decide
theorem ht_c1:ht ((1:Int):Rat) = 2:=by decide
theorem ht_cm:ht ((-1:Int):Rat) = 2:=by decide
theorem unitFits:cifits (rci unitK) = true:=by
 show (fits (rf ((1:Int):Rat)) && gfits (rg (Cx.ofInt (0:Int) (0:Int))) && fits (rf ((-1:Int):Rat))) = true
 rw [fits_c ht_c1,fits_c ht_cm,gfits_c ht_c0 ht_c0]; rfl
theorem lineFits:cifits (rci lineK) = true:=by
 show (fits (rf ((0:Int):Rat)) && gfits (rg (Cx.ofInt (0:Int) (1:Int))) && fits (rf ((0:Int):Rat))) = true
 rw [fits_c ht_c0,gfits_c ht_c0 ht_c1]; rfl
theorem lineMFits:mbfits (rmb lineM) = true:=by
 show (gfits (rg (Cx.ofInt (1:Int) (0:Int))) && gfits (rg (Cx.ofInt (0:Int) (0:Int))) && gfits (rg (Cx.ofInt (0:Int) (0:Int))) && gfits (rg (Cx.ofInt (1:Int) (0:Int)))) = true
 rw [gfits_c ht_c1 ht_c0,gfits_c ht_c0 ht_c0]; rfl
theorem unitOk:ciOk (rci unitK) = true:=ciOk_yes unitFits (by decide +kernel) (by decide +kernel)
theorem lineOk:ciOk (rci lineK) = true:=ciOk_yes lineFits (by decide +kernel) (by decide +kernel)
theorem lineMOk:mbOk (rmb lineM) = true:=mbOk_yes lineMFits (by decide +kernel) (by decide +kernel)
theorem line_over:lineK.over.nrm = lineM:=by decide +kernel
theorem line_is:lineM.isOk = true:=by decide +kernel
theorem line_k:lineM.isK.nrm = lineK:=by decide +kernel
theorem unit_send:(unitK.over.send ⟨false,Cx.ofInt (0:Int) (0:Int)⟩).inf = true:=by decide +kernel
theorem unit_line:((unitK.dot lineK).num.sign == 0) = true:=by decide +kernel
theorem line_R:lineM.isR = rci lineK:=by unfold Mb.isR; rw [if_pos line_is,line_k]; unfold cicut; rw [if_pos lineFits]
theorem line_E:lineM.isE = 0:=by unfold Mb.isE; rw [if_pos line_is,line_k]; unfold cierr; rw [if_pos lineFits]
theorem line_M:mbcut lineK.over.nrm = rmb lineM:=by rw [line_over]; unfold mbcut; rw [if_pos lineMFits]
theorem line_e:mberr lineK.over.nrm = 0:=by rw [line_over]; unfold mberr; rw [if_pos lineMFits]
abbrev rpnI:RPn:=⟨true,rz⟩
section
variable {W:World}
theorem wkPt (c:Ci) (z:Cx) (p0:c = unitK) (p1:z = Cx.ofInt (0:Int) (0:Int)) :
  Calls Tryz.prog 32 #[ciV c,pnV (Pn.mk false z)] W (RetV (.tuple #[rpnV rpnI,.int .i64 0]) W):=by
 subst p0; subst p1
 exact reV (pcut_inf unit_send).symm (ivPtZ unitK (Cx.ofInt (0:Int) (0:Int)) unitOk (gfits_c ht_c0 ht_c0))
theorem wkOver (c:Ci) (p0:c = lineK) :
  Calls Tryz.prog 31 #[ciV c] W (RetV (.tuple #[mbV lineM,.int .i64 0]) W):=by
 subst p0
 exact reV (show Value.tuple #[rmbV (mbcut lineK.over.nrm),.int .i64 (mberr lineK.over.nrm)] = .tuple #[rmbV (rmb lineM),.int .i64 0] by rw [line_M,line_e]) (ivOvO lineK lineOk)
theorem wkRt (x:Ci) (y:Ci) (p0:x = unitK) (p1:y = lineK) :
  Calls Tryz.prog 34 #[ciV x,ciV y] W (RetV (.tuple #[.bool true,.int .i64 0]) W):=by
 subst p0; subst p1
 exact reV (show Value.tuple #[.bool ((unitK.dot lineK).num.sign == 0),.int .i64 0] = .tuple #[.bool true,.int .i64 0] by rw [unit_line]) (ivRtY unitK lineK unitOk lineOk)
theorem wkIs (m:Mb) (p0:m = lineM) :
  Calls Tryz.prog 25 #[mbV m] W (RetV (.tuple #[ciV lineK,.int .i64 0]) W):=by
 subst p0
 exact reV (show Value.tuple #[rciV lineM.isR,.int .i64 lineM.isE] = .tuple #[rciV (rci lineK),.int .i64 0] by rw [line_R,line_E]) (ivIs lineM lineMOk)
end
end Go.Proofs.YtcpjdjnaipbieaaGreat
namespace Go.Proofs.YtcpjdjnaipbieaaGreat
open Go.RowKit Rgn
set_option maxHeartbeats 4000000
set_option maxRecDepth 100000
variable {S:Nat → Prop} {W:World}
theorem l14works :
  Calls Tryz.prog 24 #[] W (RetV (.bool true) W):=by
 have bel:=b0 W
 go_enter Tryz.func24,Tryz.ntmps24
 refine gs 1 (Amb Z0 W) fun _ K1=>?_
 refine .mc rfl ?_
 refine .dk (fun u=>u 0::us 71) K1 bel fun u1 w1 D bel=>?_
 have E1_0:=D.q 0
 clear D
 refine gs 10 (Amb Z0 W) fun _ K2=>?_
 refine .cK rfl Tryz.func55 (fun H=>⟨_,ar0,l14Unit⟩) ?_
 refine .cK rfl Tryz.func130 (fun H=>⟨_,ar2 (H.c (.int .i64 0)) (H.c (.int .i64 0)),cInt _ _ (by first | omega | rfl) (by first | omega | rfl) (by first | omega | rfl) (by first | omega | rfl)⟩) ?_
 refine .e rfl (V:=pnV (Pn.mk false (Cx.ofInt (0:Int) (0:Int)))) (fun H=>by have e11:=H.g 11 1; clear H; go_simp) ?_
 refine .cK rfl Tryz.func32 (fun H=>⟨_,ar2 (H.g 10 0) (H.g 12 2),wkPt _ (Cx.ofInt (0:Int) (0:Int)) (by first | omega | rfl) (by first | omega | rfl)⟩) ?_
 refine .mv rfl 3 ?_
 refine .e rfl (V:=rpnV rpnI) (fun H=>x_ex (H.g 9 4)) ?_
 refine .e rfl (V:=.int .i64 0) (fun H=>x_ex (H.g 9 4)) ?_
 refine .al rfl zPn ?_
 refine .so rfl 7 (fun H=>⟨H.r 1 7,H.g 14 5⟩) ?_
 refine .mv rfl 6 ?_
 refine .dk (fun u=>u1 0::u 7::u 9::U::U::U::U::U::U::u 4::sq u 0 4 (u 5::u 6::us 56)) K2 bel fun u2 w2 D bel=>?_
 obtain ⟨b3,E2_7,A3,B3⟩:=D.st 8
 have E2_9:=D.q 9
 clear D
 refine gs 8 (Amb Z0 W) fun _ K4=>?_
 refine .cK rfl Tryz.func58 (fun H=>⟨_,ar0,l14Line⟩) ?_
 refine .cK rfl Tryz.func31 (fun H=>⟨_,ar1 (H.g 17 0),wkOver _ (by first | omega | rfl)⟩) ?_
 refine .mv rfl 1 ?_
 refine .e rfl (V:=mbV lineM) (fun H=>x_ex (H.g 16 2)) ?_
 refine .e rfl (V:=.int .i64 0) (fun H=>x_ex (H.g 16 2)) ?_
 refine .al rfl zMb ?_
 refine .so rfl 5 (fun H=>⟨H.r 3 5,H.g 19 3⟩) ?_
 refine .mv rfl 4 ?_
 refine .dk (fun u=>u1 0::u2 7::u2 9::u 5::u 7::U::U::U::U::u2 4::sq u2 0 4 (u2 5::u2 6::u 2::u 0::u 1::u 3::u 4::us 51)) K4 bel fun u3 w3 D bel=>?_
 obtain ⟨b5,E3_5,A5,B5⟩:=D.st 6
 have E3_7:=D.q 7
 replace B3:=D.k B3
 clear D
 refine gs 8 (Amb Z0 W) fun _ K6=>?_
 refine .cK rfl Tryz.func55 (fun H=>⟨_,ar0,l14Unit⟩) ?_
 refine .cK rfl Tryz.func58 (fun H=>⟨_,ar0,l14Line⟩) ?_
 refine .cK rfl Tryz.func34 (fun H=>⟨_,ar2 (H.g 22 0) (H.g 23 1),wkRt _ _ (by first | omega | rfl) (by first | omega | rfl)⟩) ?_
 refine .mv rfl 2 ?_
 refine .e rfl (V:=.bool true) (fun H=>x_ex (H.g 21 3)) ?_
 refine .e rfl (V:=.int .i64 0) (fun H=>x_ex (H.g 21 3)) ?_
 refine .mv rfl 4 ?_
 refine .mv rfl 5 ?_
 refine .dk (fun u=>u1 0::u2 7::u2 9::u3 5::u3 7::u 6::u 7::U::U::u2 4::sq u2 0 4 (u2 5::u2 6::u3 2::u3 0::u3 1::u3 3::u3 4::u 3::sq u 0 3 (u 4::u 5::us 45))) K6 bel fun u4 w4 D bel=>?_
 have E4_6:=D.q 6
 have E4_7:=D.q 7
 replace B3:=D.k B3
 replace B5:=D.k B5
 clear D
 refine gs 8 (Amb Z0 W) fun _ K7=>?_
 refine .lr rfl 3 E3_5 B5 ?_
 refine .cK rfl Tryz.func25 (fun H=>⟨_,ar1 (H.g 28 0),wkIs _ (by first | omega | rfl)⟩) ?_
 refine .mv rfl 1 ?_
 refine .e rfl (V:=ciV lineK) (fun H=>x_ex (H.g 27 2)) ?_
 refine .e rfl (V:=.int .i64 0) (fun H=>x_ex (H.g 27 2)) ?_
 refine .al rfl zCi ?_
 refine .so rfl 5 (fun H=>⟨H.r 7 5,H.g 30 3⟩) ?_
 refine .mv rfl 4 ?_
 refine .dk (fun u=>u1 0::u2 7::u2 9::u3 5::u3 7::u4 6::u4 7::u 5::u 7::u2 4::sq u2 0 4 (u2 5::u2 6::u3 2::u3 0::u3 1::u3 3::u3 4::u4 3::sq u4 0 3 (u4 4::u4 5::u 2::u 0::u 1::u 3::u 4::us 40))) K7 bel fun u5 w5 D bel=>?_
 obtain ⟨b8,E5_5,A8,B8⟩:=D.st 6
 have E5_7:=D.q 7
 replace B3:=D.k B3
 replace B5:=D.k B5
 clear D
 refine gd 41 (Amb Z0 W) fun _ K9=>?_
 refine .mz rfl 2 E2_9 ?_
 refine .cK rfl Tryz.func27 (fun H=>⟨_,ar1 (H.g 32 0),l14Num _⟩) ?_
 refine .e rfl (V:=.bool true) (fun H=>x_cm (H.g 33 1) (H.c _) (beq_self_eq_true (0:Int))) ?_
 refine .mv rfl 2 ?_
 refine .lr rfl 1 E2_7 B3 ?_ (hg:=gq 3 rfl)
 refine .e rfl (V:=rpnV (RPn.mk true rz)) (fun H=>by have k0:=H.c (.bool true); clear H; go_simp) ?_ (hg:=gq 3 rfl)
 refine .e rfl (V:=.bool true) (fun H=>ex_eql_pn (r:=rpnI) (q:=RPn.mk true rz) _ _ rfl (H.g 36 4) (H.g 37 5) (rfl.trans (decide_eq_true rfl))) ?_ (hg:=gq 3 rfl)
 refine .e rfl (fun H=>x_pkT (H.g 35 3) (H.g 38 6)) ?_
 refine .mv rfl 7 ?_
 refine .mz rfl 4 E3_7 ?_ (hg:=gq 8 rfl)
 refine .cK rfl Tryz.func27 (fun H=>⟨_,ar1 (H.g 41 9),l14Num _⟩) ?_ (hg:=gq 8 rfl)
 refine .e rfl (V:=.bool true) (fun H=>x_cm (H.g 42 10) (H.c _) (beq_self_eq_true (0:Int))) ?_ (hg:=gq 8 rfl)
 refine .e rfl (fun H=>x_pkT (H.g 40 8) (H.g 43 11)) ?_
 refine .mv rfl 12 ?_
 refine .lr rfl 3 E3_5 B5 ?_ (hg:=gq 13 rfl)
 refine .cK rfl Tryz.func130 (fun H=>⟨_,ar2 (H.c (.int .i64 1)) (H.c (.int .i64 0)),cInt _ _ (by first | omega | rfl) (by first | omega | rfl) (by first | omega | rfl) (by first | omega | rfl)⟩) ?_ (hg:=gq 13 rfl)
 refine .cK rfl Tryz.func130 (fun H=>⟨_,ar2 (H.c (.int .i64 0)) (H.c (.int .i64 0)),cInt _ _ (by first | omega | rfl) (by first | omega | rfl) (by first | omega | rfl) (by first | omega | rfl)⟩) ?_ (hg:=gq 13 rfl)
 refine .cK rfl Tryz.func130 (fun H=>⟨_,ar2 (H.c (.int .i64 0)) (H.c (.int .i64 0)),cInt _ _ (by first | omega | rfl) (by first | omega | rfl) (by first | omega | rfl) (by first | omega | rfl)⟩) ?_ (hg:=gq 13 rfl)
 refine .cK rfl Tryz.func130 (fun H=>⟨_,ar2 (H.c (.int .i64 1)) (H.c (.int .i64 0)),cInt _ _ (by first | omega | rfl) (by first | omega | rfl) (by first | omega | rfl) (by first | omega | rfl)⟩) ?_ (hg:=gq 13 rfl)
 refine .e rfl (V:=mbV (Mb.mk (Cx.ofInt (1:Int) (0:Int)) (Cx.ofInt (0:Int) (0:Int)) (Cx.ofInt (0:Int) (0:Int)) (Cx.ofInt (1:Int) (0:Int)) true)) (fun H=>by have e47:=H.g 47 15; have e48:=H.g 48 16; have e49:=H.g 49 17; have e50:=H.g 50 18; have k4:=H.c (.bool true); clear H; go_simp) ?_ (hg:=gq 13 rfl)
 refine .e rfl (V:=.bool true) (fun H=>ex_eql_mb (r:=rmb lineM) (q:=rmb (Mb.mk (Cx.ofInt (1:Int) (0:Int)) (Cx.ofInt (0:Int) (0:Int)) (Cx.ofInt (0:Int) (0:Int)) (Cx.ofInt (1:Int) (0:Int)) true)) _ _ rfl (H.g 46 14) (H.g 51 19) ((rmb_dec lineM (Mb.mk (Cx.ofInt (1:Int) (0:Int)) (Cx.ofInt (0:Int) (0:Int)) (Cx.ofInt (0:Int) (0:Int)) (Cx.ofInt (1:Int) (0:Int)) true)).trans (decide_eq_true rfl))) ?_ (hg:=gq 13 rfl)
 refine .e rfl (fun H=>x_pkT (H.g 45 13) (H.g 52 20)) ?_
 refine .mv rfl 21 ?_
 refine .mz rfl 5 E4_6 ?_ (hg:=gq 22 rfl)
 refine .e rfl (fun H=>x_pkT (H.g 54 22) (H.g 55 23)) ?_
 refine .mv rfl 24 ?_
 refine .mz rfl 6 E4_7 ?_ (hg:=gq 25 rfl)
 refine .cK rfl Tryz.func27 (fun H=>⟨_,ar1 (H.g 58 26),l14Num _⟩) ?_ (hg:=gq 25 rfl)
 refine .e rfl (V:=.bool true) (fun H=>x_cm (H.g 59 27) (H.c _) (beq_self_eq_true (0:Int))) ?_ (hg:=gq 25 rfl)
 refine .e rfl (fun H=>x_pkT (H.g 57 25) (H.g 60 28)) ?_
 refine .mv rfl 29 ?_
 refine .lr rfl 7 E5_5 B8 ?_ (hg:=gq 30 rfl)
 refine .cK rfl Tryz.func58 (fun H=>⟨_,ar0,l14Line⟩) ?_ (hg:=gq 30 rfl)
 refine .e rfl (V:=.bool true) (fun H=>ex_eql_ci (r:=rci lineK) (q:=rci lineK) _ _ rfl (H.g 63 31) (H.g 64 32) ((rci_dec lineK lineK).trans (decide_eq_true rfl))) ?_ (hg:=gq 30 rfl)
 refine .e rfl (fun H=>x_pkT (H.g 62 30) (H.g 65 33)) ?_
 refine .mv rfl 34 ?_
 refine .mz rfl 8 E5_7 ?_ (hg:=gq 35 rfl)
 refine .cK rfl Tryz.func27 (fun H=>⟨_,ar1 (H.g 68 36),l14Num _⟩) ?_ (hg:=gq 35 rfl)
 refine .e rfl (V:=.bool true) (fun H=>x_cm (H.g 69 37) (H.c _) (beq_self_eq_true (0:Int))) ?_ (hg:=gq 35 rfl)
 refine .e rfl (fun H=>x_pkT (H.g 67 35) (H.g 70 38)) ?_
 refine .mv rfl 39 ?_
 refine .dk (fun u=>u 40::u2 7::u2 9::u3 5::u3 7::u4 6::u4 7::u5 5::u5 7::u2 4::sq u2 0 4 (u2 5::u2 6::u3 2::u3 0::u3 1::u3 3::u3 4::u4 3::sq u4 0 3 (u4 4::u4 5::u5 2::u5 0::u5 1::u5 3::u5 4::sq u 0 40 []))) K9 bel fun u6 w6 D bel=>?_
 have E6_40:=D.q 40
 clear D
 exact wp_ret (rt rfl E6_40 rfl bel)
end Go.Proofs.YtcpjdjnaipbieaaGreat
namespace Go.Proofs.YtcpjdjnaipbieaaGreat
open Go.RowKit Rgn Eng
set_option maxHeartbeats 4000000
set_option maxRecDepth 100000
variable {S:Nat → Prop} {W:World}
theorem m8Turn (z:Cx) (t:Bool):Calls Tryz.prog 246 #[gV z,.bool t] W (RetV (gV (cjC t z)) W):=by
 refine Run.goP (S:=Z0) ((Pack.nil.k (gV z) (gC z).toList (.s (.agg (ks 0 8)))).k (.bool t) [.bool t] kb) Tryz.func246 rfl ?_
 cases t
 · refine Run.kn (b:=false) rfl ?_
   exact Run.rV rfl
 · refine Run.kn (b:=true) rfl ?_
   refine Run.cV (gC z.conj).toList (.s (.agg (ks 0 8))) (fun β ℓ w H=>cConj z) ?_
   exact Run.rV rfl
theorem c11Twice (x:Rat) (p0:ht x ≤ 34359738368):Calls Tryz.prog 169 #[fV x] W (RetV (fV (x + x)) W):=by
 refine Run.goP (S:=Z0) (Pack.nil.k (fV x) (fC x).toList (.s (.agg (ks 0 4)))) Tryz.func169 rfl ?_
 refine Run.cV (fC (x + x)).toList (.s (.agg (ks 0 4))) (fun β ℓ w H=>fPlus x x (by omega)) ?_
 exact Run.rV rfl
theorem r3Small (a b:Int) (p0:-9223372036854775808 ≤ a) (p1:a ≤ 9223372036854775807) (p2:-9223372036854775808 ≤ b) (p3:b ≤ 9223372036854775807) (p4:b ≠ 0):Calls Tryz.prog 125 #[.int .i64 a,.int .i64 b] W (RetV (fV (Rat.divInt a b)) W):=by
 have n0:=hi_i64 p0 p1
 have n1:=hi_i64 p2 p3
 refine Run.goP (S:=Z0) ((Pack.nil.k (.int .i64 a) [.int .i64 a] kb).k (.int .i64 b) [.int .i64 b] kb) Tryz.func125 rfl ?_
 refine Run.cV (wC a).toList (.s (.agg (ks 0 2))) (fun β ℓ w H=>rOf a p0 p1) ?_
 refine Run.cV (wC b).toList (.s (.agg (ks 0 2))) (fun β ℓ w H=>rOf b p2 p3) ?_
 refine Run.cV (fC (Rat.divInt a b)).toList (.s (.agg (ks 0 4))) (fun β ℓ w H=>fOf a b (by omega) p4) ?_
 exact Run.rV rfl
theorem r14Cross (c d:Ci) (p0:ht c.a + ht c.b.re + ht c.b.im + ht c.c + (ht d.a + ht d.b.re + ht d.b.im + ht d.c) ≤ 67108864):Calls Tryz.prog 170 #[ciV c,ciV d] W (RetV (fV (c.dot d)) W):=by
 have z2:ht (Rat.divInt (1:Int) (2:Int)) = 3:=by decide
 have h1:=ht_mul c.a d.c
 have h2:=ht_mul d.a c.c
 have h3:=hc_conj d.b
 have h4:=hc_mul c.b d.b.conj
 have h5:=ht_add (c.a * d.c) (d.a * c.c)
 have h6:=ht_mul (c.a * d.c + d.a * c.c) (Rat.divInt (1:Int) (2:Int))
 refine Run.goP (S:=Z0) ((Pack.nil.k (ciV c) (ciC c).toList (.s (.agg (ks 0 16)))).k (ciV d) (ciC d).toList (.s (.agg (ks 0 16)))) Tryz.func170 rfl ?_
 refine Run.dr ?_
 refine RunD.cV (fC (c.a * d.c)).toList (.s (.agg (ks 0 4))) (fun β ℓ w H=>fTimes c.a d.c (by omega)) ?_
 refine RunD.cV (fC (d.a * c.c)).toList (.s (.agg (ks 0 4))) (fun β ℓ w H=>fTimes d.a c.c (by omega)) ?_
 refine RunD.cV (fC (c.a * d.c + d.a * c.c)).toList (.s (.agg (ks 0 4))) (fun β ℓ w H=>fPlus (c.a * d.c) (d.a * c.c) (by omega)) ?_
 refine RunD.en ?_
 refine Run.dr ?_
 refine RunD.cV (fC (Rat.divInt 1 2)).toList (.s (.agg (ks 0 4))) (fun β ℓ w H=>r3Small 1 2 (by decide) (by decide) (by decide) (by decide) (by decide)) ?_
 refine RunD.cV (fC ((c.a * d.c + d.a * c.c) * Rat.divInt 1 2)).toList (.s (.agg (ks 0 4))) (fun β ℓ w H=>fTimes (c.a * d.c + d.a * c.c) (Rat.divInt 1 2) (by omega)) ?_
 refine RunD.cV (gC d.b.conj).toList (.s (.agg (ks 0 8))) (fun β ℓ w H=>cConj d.b) ?_
 refine RunD.cV (gC (c.b.mul d.b.conj)).toList (.s (.agg (ks 0 8))) (fun β ℓ w H=>cTimes c.b d.b.conj (by omega)) ?_
 refine RunD.cV (fC (c.dot d)).toList (.s (.agg (ks 0 4))) (fun β ℓ w H=>fMinus ((c.a * d.c + d.a * c.c) * Rat.divInt 1 2) (c.b.mul d.b.conj).re (by omega)) ?_
 refine RunD.en ?_
 exact Run.rV rfl
theorem r14Right (c d:Ci) (p0:ht c.a + ht c.b.re + ht c.b.im + ht c.c + (ht d.a + ht d.b.re + ht d.b.im + ht d.c) ≤ 67108864):Calls Tryz.prog 42 #[ciV c,ciV d] W (RetV (.bool ((c.dot d).num.sign == 0)) W):=by
 refine Run.goP (S:=Z0) ((Pack.nil.k (ciV c) (ciC c).toList (.s (.agg (ks 0 16)))).k (ciV d) (ciC d).toList (.s (.agg (ks 0 16)))) Tryz.func42 rfl ?_
 refine Run.cV (fC (c.dot d)).toList (.s (.agg (ks 0 4))) (fun β ℓ w H=>r14Cross c d p0) ?_
 refine Run.cV [.int .i64 (c.dot d).num.sign] kb (fun β ℓ w H=>fSign (c.dot d)) ?_
 refine Run.ic (c.dot d).num.sign 0 ((c.dot d).num.sign == 0) ?_
 exact Run.rV rfl
theorem m8Inv (m:Mb) (p0:ht m.a.re + ht m.a.im + ht m.b.re + ht m.b.im + ht m.c.re + ht m.c.im + ht m.d.re + ht m.d.im ≤ 268435456) (p1:(Mb.mk (cjC m.t m.d) (cjC m.t m.b.neg) (cjC m.t m.c.neg) (cjC m.t m.a) m.t).piv.zero = false):Calls Tryz.prog 167 #[mbV m] W (RetV (mbV m.undo) W):=by
 have hj:∀ z:Cx,ht (cjC m.t z).re = ht z.re ∧ ht (cjC m.t z).im = ht z.im:=fun z=>by
   cases m.t
   · exact ⟨rfl,rfl⟩
   · exact hc_conj z
 have h1:=hj m.d
 have h2:=hj m.b.neg
 have h3:=hj m.c.neg
 have h4:=hj m.a
 have h5:=hc_neg m.b
 have h6:=hc_neg m.c
 refine Run.goP (S:=Z0) (Pack.nil.k (mbV m) (mbC m).toList (.s (.agg (ks 0 33)))) Tryz.func167 rfl ?_
 refine Run.dr ?_
 refine RunD.cV (gC (cjC m.t m.d)).toList (.s (.agg (ks 0 8))) (fun β ℓ w H=>m8Turn m.d m.t) ?_
 refine RunD.cV (gC m.b.neg).toList (.s (.agg (ks 0 8))) (fun β ℓ w H=>cNeg m.b) ?_
 refine RunD.cV (gC (cjC m.t m.b.neg)).toList (.s (.agg (ks 0 8))) (fun β ℓ w H=>m8Turn m.b.neg m.t) ?_
 refine RunD.cV (gC m.c.neg).toList (.s (.agg (ks 0 8))) (fun β ℓ w H=>cNeg m.c) ?_
 refine RunD.cV (gC (cjC m.t m.c.neg)).toList (.s (.agg (ks 0 8))) (fun β ℓ w H=>m8Turn m.c.neg m.t) ?_
 refine RunD.cV (gC (cjC m.t m.a)).toList (.s (.agg (ks 0 8))) (fun β ℓ w H=>m8Turn m.a m.t) ?_
 refine RunD.cV (mbC m.undo).toList (.s (.agg (ks 0 33))) (fun β ℓ w H=>m8Norm (cjC m.t m.d) (cjC m.t m.b.neg) (cjC m.t m.c.neg) (cjC m.t m.a) m.t (by omega) p1) ?_
 refine RunD.en ?_
 exact Run.rV rfl
theorem l14isM (k:Mb):Calls Tryz.prog 37 #[rmbV (mbcut k),.int .i64 (mberr k),mbV k] W (RetV (.bool true) W):=by
 rcases Bool.eq_false_or_eq_true (mbfits (rmb k)) with h | h
 · have e1:mbcut k = rmb k:=by unfold mbcut; rw [if_pos h]
   have e2:mberr k = 0:=by unfold mberr; rw [if_pos h]
   rw [e1,e2]
   refine Run.goP (S:=Z0) (((Pack.nil.k (rmbV (rmb k)) (rmbC (rmb k)).toList (.s (.agg (ks 0 33)))).k (.int .i64 0) [] (.s (.o (.c (.int .i64 0))))).k (mbV k) (mbC k).toList (.s (.agg (ks 0 33)))) Tryz.func37 rfl ?_
   refine Run.cV [.bool (mbfits (rmb k))] kb (fun β ℓ w H=>m8Fits (rmb k)) ?_
   refine Run.kn h ?_
   refine Run.bi [] (cb true) (fun w o ρ x y t' ho hx hy=>ex_eql_mb (r:=rmb k) (q:=rmb k) x y ho hx hy (decide_eq_true rfl)) ?_
   refine Run.cV [] (.s (.o (.c (.int .i64 0)))) (fun β ℓ w H=>l14Num 0) ?_
   exact Run.rV rfl
 · have e1:mbcut k = rzMb:=by unfold mbcut; rw [if_neg (by rw [h]; decide)]
   have e2:mberr k = 4:=by unfold mberr; rw [if_neg (by rw [h]; decide)]
   rw [e1,e2]
   refine Run.goP (S:=Z0) (((Pack.nil.k (rmbV rzMb) (rmbC rzMb).toList (.s (.agg (ks 0 33)))).k (.int .i64 4) [] (.s (.o (.c (.int .i64 4))))).k (mbV k) (mbC k).toList (.s (.agg (ks 0 33)))) Tryz.func37 rfl ?_
   refine Run.cV [.bool (mbfits (rmb k))] kb (fun β ℓ w H=>m8Fits (rmb k)) ?_
   refine Run.kn h ?_
   refine Run.bi [] (cb true) (fun w o ρ x y t' ho hx hy=>ex_eql_mb (r:=rzMb) (q:=rzMb) x y ho hx hy (decide_eq_true rfl)) ?_
   refine Run.cV [] (.s (.o (.c (.int .i64 4)))) (fun β ℓ w H=>l14Num 4) ?_
   exact Run.rV rfl
theorem m8PFits (i:Bool) (r:RG):Calls Tryz.prog 97 #[rpnV ⟨i,r⟩] W (RetV (.bool (i || gfits r)) W):=by
 refine Run.goP (S:=Z0) (Pack.nil.k (rpnV ⟨i,r⟩) (.bool i :: (rgC r).toList) (.s (.agg (ks 0 9)))) Tryz.func97 rfl ?_
 cases i
 · refine Run.kn (b:=false) rfl ?_
   refine Run.cV [.bool (gfits r)] kb (fun β ℓ w H=>cFits r) ?_
   exact Run.rV rfl
 · refine Run.kn (b:=true) rfl ?_
   exact Run.rV rfl
theorem l14MayO (c:Ci) (p0:ciOk (rci c) = true):Calls Tryz.prog 35 #[ciV c] W (RetV (.bool true) W):=by
 refine Run.goP (S:=Z0) (Pack.nil.k (ciV c) (ciC c).toList (.s (.agg (ks 0 16)))) Tryz.func35 rfl ?_
 refine Run.cV [] (.s (.o (.c (.int .i64 0)))) (fun β ℓ w H=>c11ChkO c p0) ?_
 exact Run.rV rfl
theorem l14MayN (r:RCi) (p0:ciOk r = false):Calls Tryz.prog 35 #[rciV r] W (RetV (.bool false) W):=by
 refine Run.goP (S:=Z0) (Pack.nil.k (rciV r) (rciC r).toList (.s (.agg (ks 0 16)))) Tryz.func35 rfl ?_
 refine Run.cV [] (.s (.o (.c (.int .i64 2)))) (fun β ℓ w H=>c11ChkN r p0) ?_
 exact Run.rV rfl
theorem l14long1 {b1:Nat} (a:RG) (B:W.heap[b1]? = some (.cells (rgC a) 27 (0,0))):Calls Tryz.prog 23 #[.slice (some ⟨b1,0,none⟩) 1 1] W (RetV (.bool (lgG a)) W):=by
 refine Run.goP (S:=Z0) (Pack.nil.b B (some 1) 8) Tryz.func23 rfl ?_
 refine Run.cV [.bool (lgF a.re)] kb (fun β ℓ w H=>l14longF a.re) ?_
 rcases Bool.eq_false_or_eq_true (lgF a.re) with h | h
 · refine Run.kn h ?_
   exact Run.rV (by unfold lgG; rw [h,Bool.true_or])
 refine Run.kn h ?_
 refine Run.cV [.bool (lgF a.im)] kb (fun β ℓ w H=>l14longF a.im) ?_
 rcases Bool.eq_false_or_eq_true (lgF a.im) with h2 | h2
 · refine Run.kn h2 ?_
   exact Run.rV (by unfold lgG; rw [h,h2]; first | done | rfl)
 refine Run.kn h2 ?_
 exact Run.rV (by unfold lgG; rw [h,h2]; first | done | rfl)
theorem l14isP (i:Bool) (r:RG) (c:RPn) (e:Int) (h:((i || gfits r) = true ∧ c = ⟨i,r⟩ ∧ e = 0) ∨ ((i || gfits r) = false ∧ c = rzPn ∧ e = 4)):Calls Tryz.prog 39 #[rpnV c,.int .i64 e,rpnV ⟨i,r⟩] W (RetV (.bool true) W):=by
 rcases h with ⟨h,rfl,rfl⟩ | ⟨h,rfl,rfl⟩
 · refine Run.goP (S:=Z0) (((Pack.nil.k (rpnV ⟨i,r⟩) (.bool i :: (rgC r).toList) (.s (.agg (ks 0 9)))).k (.int .i64 0) [] (.s (.o (.c (.int .i64 0))))).k (rpnV ⟨i,r⟩) (.bool i :: (rgC r).toList) (.s (.agg (ks 0 9)))) Tryz.func39 rfl ?_
   refine Run.cV [.bool (i || gfits r)] kb (fun β ℓ w H=>m8PFits i r) ?_
   refine Run.kn h ?_
   refine Run.bi [] (cb true) (fun w o ρ x y t' ho hx hy=>ex_eql_pn (r:=⟨i,r⟩) (q:=⟨i,r⟩) x y ho hx hy (decide_eq_true rfl)) ?_
   refine Run.cV [] (.s (.o (.c (.int .i64 0)))) (fun β ℓ w H=>l14Num 0) ?_
   exact Run.rV rfl
 · refine Run.goP (S:=Z0) (((Pack.nil.k (rpnV rzPn) (rpnC rzPn).toList (.s (.agg (ks 0 9)))).k (.int .i64 4) [] (.s (.o (.c (.int .i64 4))))).k (rpnV ⟨i,r⟩) (.bool i :: (rgC r).toList) (.s (.agg (ks 0 9)))) Tryz.func39 rfl ?_
   refine Run.cV [.bool (i || gfits r)] kb (fun β ℓ w H=>m8PFits i r) ?_
   refine Run.kn h ?_
   refine Run.bi [] (cb true) (fun w o ρ x y t' ho hx hy=>ex_eql_pn (r:=rzPn) (q:=rzPn) x y ho hx hy (decide_eq_true rfl)) ?_
   refine Run.cV [] (.s (.o (.c (.int .i64 4)))) (fun β ℓ w H=>l14Num 4) ?_
   exact Run.rV rfl
end Go.Proofs.YtcpjdjnaipbieaaGreat
namespace Go.Proofs.YtcpjdjnaipbieaaGreat
open Go.RowKit Rgn
@[reducible] def Cx.inv (k:Cx):Cx:=k.conj.scale k.norm⁻¹
theorem div_inv (x k:Cx):x.div k = x.mul k.inv:=Cx.ext' (by show (x.re * k.re - x.im * -k.im) * k.norm⁻¹ = x.re * (k.re * k.norm⁻¹) - x.im * (-k.im * k.norm⁻¹); grind) (by show (x.re * -k.im + x.im * k.re) * k.norm⁻¹ = x.re * (-k.im * k.norm⁻¹) + x.im * (k.re * k.norm⁻¹); grind)
theorem inv_one {k:Cx} (h:k.zero = false):k.inv.mul k = ⟨1,0⟩:=by
 have hn:k.norm ≠ 0:=zero_norm h
 have e:(k.re * k.re + k.im * k.im) * k.norm⁻¹ = 1:=Rat.mul_inv_cancel _ hn
 exact Cx.ext' (by show k.re * k.norm⁻¹ * k.re - -k.im * k.norm⁻¹ * k.im = 1; grind) (by show k.re * k.norm⁻¹ * k.im + -k.im * k.norm⁻¹ * k.re = 0; grind)
theorem inv_zero {k:Cx} (h:k.zero = false):k.inv.zero = false:=by
 cases e:k.inv.zero with
 | false=>rfl
 | true =>
  have h1:=inv_one h
  rw [zero_iff.1 e] at h1
  have h2:(0:Rat) * k.re - 0 * k.im = 1:=congrArg Cx.re h1
  grind
theorem mul_assoc' (x y z:Cx):(x.mul y).mul z = x.mul (y.mul z):=Cx.ext' (by show (x.re * y.re - x.im * y.im) * z.re - (x.re * y.im + x.im * y.re) * z.im = x.re * (y.re * z.re - y.im * z.im) - x.im * (y.re * z.im + y.im * z.re); grind) (by show (x.re * y.re - x.im * y.im) * z.im + (x.re * y.im + x.im * y.re) * z.re = x.re * (y.re * z.im + y.im * z.re) + x.im * (y.re * z.re - y.im * z.im); grind)
theorem mul_one' (x:Cx):x.mul ⟨1,0⟩ = x:=Cx.ext' (by show x.re * 1 - x.im * 0 = x.re; grind) (by show x.re * 0 + x.im * 1 = x.im; grind)
theorem zero_mul' (z:Cx):(Cx.mk 0 0).mul z = ⟨0,0⟩:=Cx.ext' (by show (0:Rat) * z.re - 0 * z.im = 0; grind) (by show (0:Rat) * z.im + 0 * z.re = 0; grind)
theorem mul_zero_iff {x j:Cx} (h:j.zero = false):(x.mul j).zero = x.zero:=by
 rw [Bool.eq_iff_iff,zero_iff,zero_iff]
 constructor
 ·intro e
  have e2:(x.mul j).mul j.inv = ⟨0,0⟩:=by rw [e]; exact zero_mul' _
  rw [mul_assoc', cmul_comm j,inv_one h,mul_one'] at e2
  exact e2
 ·intro e; rw [e]; exact zero_mul' _
theorem norm_mul' (x y:Cx):(x.mul y).norm = x.norm * y.norm:=by
 show (x.re * y.re - x.im * y.im) * (x.re * y.re - x.im * y.im) + (x.re * y.im + x.im * y.re) * (x.re * y.im + x.im * y.re) = (x.re * x.re + x.im * x.im) * (y.re * y.re + y.im * y.im)
 grind
theorem div_mul_mul {x y j:Cx} (h:j.zero = false):(x.mul j).div (y.mul j) = x.div y:=by
 have hn:j.norm ≠ 0:=zero_norm h
 have e:(y.mul j).norm⁻¹ * j.norm = y.norm⁻¹:=by
  rw [norm_mul', Rat.inv_mul_rev,Rat.mul_comm,← Rat.mul_assoc,Rat.mul_inv_cancel _ hn,Rat.one_mul]
 have e1:(x.mul j).mul (y.mul j).conj = (x.mul y.conj).scale j.norm:=Cx.ext' (by show (x.re * j.re - x.im * j.im) * (y.re * j.re - y.im * j.im) - (x.re * j.im + x.im * j.re) * -(y.re * j.im + y.im * j.re) = (x.re * y.re - x.im * -y.im) * (j.re * j.re + j.im * j.im); grind) (by show (x.re * j.re - x.im * j.im) * -(y.re * j.im + y.im * j.re) + (x.re * j.im + x.im * j.re) * (y.re * j.re - y.im * j.im) = (x.re * -y.im + x.im * y.re) * (j.re * j.re + j.im * j.im); grind)
 show ((x.mul j).mul (y.mul j).conj).scale (y.mul j).norm⁻¹ = (x.mul y.conj).scale y.norm⁻¹
 rw [e1,← e]
 exact Cx.ext' (by show (x.re * y.re - x.im * -y.im) * j.norm * (y.mul j).norm⁻¹ = (x.re * y.re - x.im * -y.im) * ((y.mul j).norm⁻¹ * j.norm); grind) (by show (x.re * -y.im + x.im * y.re) * j.norm * (y.mul j).norm⁻¹ = (x.re * -y.im + x.im * y.re) * ((y.mul j).norm⁻¹ * j.norm); grind)
@[reducible] def Mb.by (m:Mb) (j:Cx):Mb:=⟨m.a.mul j,m.b.mul j,m.c.mul j,m.d.mul j,m.t⟩
theorem nrm_by' (m:Mb):m.nrm = m.by m.piv.inv:=by unfold Mb.nrm; rw [div_inv,div_inv,div_inv,div_inv]
theorem piv_by {m:Mb} {j:Cx} (h:j.zero = false):(m.by j).piv = m.piv.mul j:=by
 unfold Mb.piv
 rw [mul_zero_iff h]
 split <;> rfl
theorem nrm_by {m:Mb} {j:Cx} (h:j.zero = false):(m.by j).nrm = m.nrm:=by
 unfold Mb.nrm
 rw [piv_by h,div_mul_mul h,div_mul_mul h,div_mul_mul h,div_mul_mul h]
theorem conj_mul (x y:Cx):(x.mul y).conj = x.conj.mul y.conj:=Cx.ext' (by show x.re * y.re - x.im * y.im = x.re * y.re - -x.im * -y.im; grind) (by show -(x.re * y.im + x.im * y.re) = x.re * -y.im + -x.im * y.re; grind)
theorem cj_mul (t:Bool) (x y:Cx):cjC t (x.mul y) = (cjC t x).mul (cjC t y):=by
 cases t with
 | false=>rfl
 | true=>exact conj_mul x y
theorem cj_zero (t:Bool) (x:Cx):(cjC t x).zero = x.zero:=by
 cases t with
 | false=>rfl
 | true=>exact zero_conj x
theorem neg_mul' (x y:Cx):(x.mul y).neg = x.neg.mul y:=Cx.ext' (by show -(x.re * y.re - x.im * y.im) = -x.re * y.re - -x.im * y.im; grind) (by show -(x.re * y.im + x.im * y.re) = -x.re * y.im + -x.im * y.re; grind)
theorem add_mul' (x y z:Cx):(x.add y).mul z = (x.mul z).add (y.mul z):=Cx.ext' (by show (x.re + y.re) * z.re - (x.im + y.im) * z.im = x.re * z.re - x.im * z.im + (y.re * z.re - y.im * z.im); grind) (by show (x.re + y.re) * z.im + (x.im + y.im) * z.re = x.re * z.im + x.im * z.re + (y.re * z.im + y.im * z.re); grind)
theorem undo_by {m:Mb} {j:Cx} (h:j.zero = false):(m.by j).undo = m.undo:=by
 have e:Mb.cjM m.t ⟨m.d.mul j,(m.b.mul j).neg,(m.c.mul j).neg,m.a.mul j,m.t⟩ = (Mb.cjM m.t ⟨m.d,m.b.neg,m.c.neg,m.a,m.t⟩).by (cjC m.t j):=by
  unfold Mb.cjM
  simp only [neg_mul', cj_mul]
 show (Mb.cjM m.t ⟨m.d.mul j,(m.b.mul j).neg,(m.c.mul j).neg,m.a.mul j,m.t⟩).nrm = _
 rw [e,nrm_by (by rw [cj_zero]; exact h)]
 rfl
theorem undo_nrm {m:Mb} (h:m.piv.zero = false):m.nrm.undo = m.undo:=by rw [nrm_by', undo_by (inv_zero h)]
theorem put_by (m:Mb) (j:Cx) (p:Pn):(m.by j).put p = ((m.put p).1.mul j,(m.put p).2.mul j):=by
 unfold Mb.put
 split
 ·rfl
 ·rw [add_mul', add_mul', mul_assoc', mul_assoc', mul_assoc', mul_assoc', cmul_comm j]
theorem send_nrm {m:Mb} (h:m.piv.zero = false) (p:Pn):m.nrm.send p = m.send p:=by
 have h' := inv_zero h
 rw [nrm_by']
 unfold Mb.send
 rw [put_by]
 simp only [mul_zero_iff h', div_mul_mul h']
def Ci.at (c:Ci) (v w:Cx):Rat:=c.a * v.norm + c.c * w.norm + (((c.b.mul v).mul w.conj).re + ((c.b.mul v).mul w.conj).re)
def Ci.mid (c:Ci) (n:Mb):Cx:=((((Cx.mk c.a 0).mul (n.a.mul n.b.conj)).add ((c.b.mul n.a).mul n.d.conj)).add ((c.b.mul n.b).conj.mul n.c)).add ((Cx.mk c.c 0).mul (n.c.mul n.d.conj))
def Ci.im (c:Ci) (n:Mb) (t:Bool):Ci:=⟨c.at n.a n.c,cjC t (c.mid n),c.at n.b n.d⟩
def Mb.img (m:Mb) (c:Ci):Ci:=c.im m.undo m.t
theorem img_nrm {m:Mb} (h:m.piv.zero = false) (c:Ci):m.nrm.img c = m.img c:=by
 unfold Mb.img
 rw [undo_nrm h]; rfl
theorem norm_cj (t:Bool) (z:Cx):(cjC t z).norm = z.norm:=by
 cases t
 ·rfl
 ·show z.re * z.re + -z.im * -z.im = z.re * z.re + z.im * z.im; grind
theorem im_pow (c:Ci) (n:Mb) (t:Bool):(c.im n t).pow = c.pow * n.det.norm:=by
 show (cjC t (c.mid n)).norm - c.at n.a n.c * c.at n.b n.d = _
 rw [norm_cj]
 obtain ⟨A,⟨B1,B2⟩,C⟩:=c
 obtain ⟨⟨p1,p2⟩,⟨q1,q2⟩,⟨r1,r2⟩,⟨s1,s2⟩,u⟩:=n
 unfold Ci.mid Ci.at
 simp only [Cx.norm,Cx.mul,Cx.add,Cx.sub,Cx.conj,Mb.det,Ci.pow]
 grind
theorem at_eq (c:Ci) (v w:Cx):(0:Rat) + c.a * v.norm + (((c.b.mul v).mul w.conj).re + ((c.b.mul v).mul w.conj).re) + c.c * w.norm = c.at v w:=by unfold Ci.at; grind
theorem mid_eq (c:Ci) (n:Mb):((((n.a.mul n.b.conj).scale c.a).add ((c.b.mul n.a).mul n.d.conj)).add ((c.b.mul n.b).conj.mul n.c)).add ((n.c.mul n.d.conj).scale c.c) = c.mid n:=by
 have e:∀ (z:Cx) (x:Rat),z.scale x = (Cx.mk x 0).mul z:=fun z x=>Cx.ext' (by show z.re * x = x * z.re - 0 * z.im; grind) (by show z.im * x = x * z.im + 0 * z.re; grind)
 unfold Ci.mid
 rw [e,e]
theorem det_by (m:Mb) (j:Cx):(m.by j).det = (m.det.mul j).mul j:=by
 obtain ⟨⟨p1,p2⟩,⟨q1,q2⟩,⟨r1,r2⟩,⟨s1,s2⟩,u⟩:=m
 obtain ⟨j1,j2⟩:=j
 exact Cx.ext' (by simp only [Mb.det,Mb.by,Cx.mul,Cx.sub]; grind) (by simp only [Mb.det,Mb.by,Cx.mul,Cx.sub]; grind)
theorem nrm_det {m:Mb} (h:m.det.zero = false):m.nrm.det.zero = false:=by
 have h' := inv_zero (det_piv h)
 rw [nrm_by', det_by,mul_zero_iff h', mul_zero_iff h']; exact h
theorem undo_det {m:Mb} (h:m.det.zero = false):m.undo.det.zero = false:=by
 cases e:m.t with
 | true=>rw [← undo_1 e]; exact nrm_det (by rw [det_undoC,zero_conj]; exact h)
 | false=>rw [← undo_0 e]; exact nrm_det (by rw [det_undo]; exact h)
theorem sq_nn (x:Rat):0 ≤ x * x:=by
 rcases Rat.le_total (a:=0) (b:=x) with g | g
 ·exact Rat.mul_nonneg g g
 ·have g' : 0 ≤ -x:=by grind
  have:=Rat.mul_nonneg g' g'
  grind
theorem norm_pos' {z:Cx} (h:z.zero = false):0 < z.norm:=by
 have h1:z.norm ≠ 0:=zero_norm h
 have h2:=sq_nn z.re
 have h3:=sq_nn z.im
 have h4:0 ≤ z.norm:=by show 0 ≤ z.re * z.re + z.im * z.im; grind
 grind
theorem img_pos {m:Mb} {c:Ci} (h:m.det.zero = false) (hc:c.pos = true):(m.img c).pos = true:=by
 rw [pos_iff] at hc ⊢
 unfold Mb.img
 rw [im_pow]
 exact Rat.mul_pos hc (norm_pos' (undo_det h))
theorem nrm_nrm {c:Ci} (h:c.flat = false):c.nrm.nrm = c.nrm:=by
 have hp:=piv_ne h
 have e:c.nrm.piv = 1:=by
  have hi:c.piv⁻¹ ≠ 0:=fun e=>hp (by have:=Rat.inv_inv c.piv; rw [e] at this; rw [← this]; decide +kernel)
  have z:∀ x:Rat,((x * c.piv⁻¹).num.sign == 0) = (x.num.sign == 0):=fun x=>by
   rw [Bool.eq_iff_iff,sgn_iff,sgn_iff,Rat.mul_eq_zero]
   exact ⟨fun h=>h.resolve_right hi,.inl⟩
  have e1:c.nrm.piv = c.piv * c.piv⁻¹:=by
   show (if ((c.a * c.piv⁻¹).num.sign == 0) = true then (if ((c.b.re * c.piv⁻¹).num.sign == 0) = true then c.b.im * c.piv⁻¹ else c.b.re * c.piv⁻¹) else c.a * c.piv⁻¹) = _
   rw [z,z]
   conv=>rhs; lhs; unfold Ci.piv
   split
   ·split <;> rfl
   ·rfl
  rw [e1]; exact Rat.mul_inv_cancel _ hp
 generalize c.nrm = d at e
 unfold Ci.nrm
 rw [e]
 have o:(1:Rat)⁻¹ = 1:=by decide +kernel
 rw [o]
 show Ci.mk (d.a * 1) ⟨d.b.re * 1,d.b.im * 1⟩ (d.c * 1) = d
 simp only [Rat.mul_one]
def HB (z:Cx) (n:Nat):Prop:=ht z.re ≤ n ∧ ht z.im ≤ n
section
variable {x y z:Cx} {p q:Rat} {a b n:Nat}
theorem HB.two (h1:ht z.re ≤ a) (h2:ht z.im ≤ b) (n:Nat) (h:(Nat.ble a n && Nat.ble b n) = true:=by decide):HB z n:=by
 simp only [Bool.and_eq_true,Nat.ble_eq] at h
 exact ⟨Nat.le_trans h1 h.1,Nat.le_trans h2 h.2⟩
theorem HB.mul (h1:HB x a) (h2:HB y b) (n:Nat) (h:2 * a + 2 * b ≤ n:=by decide):HB (x.mul y) n:=by
 have:=hc_mul x y
 unfold HB at *; omega
theorem HB.add (h1:HB x a) (h2:HB y b) (n:Nat) (h:a + b ≤ n:=by decide):HB (x.add y) n:=by
 have:=hc_add x y
 unfold HB at *; omega
theorem HB.sub (h1:HB x a) (h2:HB y b) (n:Nat) (h:a + b ≤ n:=by decide):HB (x.sub y) n:=by
 have:=hc_sub x y
 unfold HB at *; omega
theorem HB.div (h1:HB x a) (h2:HB y b) (n:Nat) (h:6 * a + 6 * b ≤ n:=by decide):HB (x.div y) n:=by
 have:=hc_div x y
 unfold HB at *; omega
theorem HB.neg (h1:HB x a):HB x.neg a:=by have:=hc_neg x; unfold HB at *; omega
theorem HB.conj (h1:HB x a):HB x.conj a:=by have:=hc_conj x; unfold HB at *; omega
theorem HB.scale (h1:HB x a) (h2:ht p ≤ b) (n:Nat) (h:a + b ≤ n:=by decide):HB (x.scale p) n:=by
 have:=hc_scale x p
 unfold HB at *; omega
theorem HB.norm (h1:HB x a) (n:Nat) (h:4 * a ≤ n:=by decide):ht x.norm ≤ n:=by
 have:=hc_norm x
 unfold HB at *; omega
theorem hb_add (h1:ht p ≤ a) (h2:ht q ≤ b) (n:Nat) (h:a + b ≤ n:=by decide):ht (p + q) ≤ n:=Nat.le_trans (ht_add p q) (Nat.le_trans (Nat.add_le_add h1 h2) h)
theorem hb_mul (h1:ht p ≤ a) (h2:ht q ≤ b) (n:Nat) (h:a + b ≤ n:=by decide):ht (p * q) ≤ n:=Nat.le_trans (ht_mul p q) (Nat.le_trans (Nat.add_le_add h1 h2) h)
theorem hb_ci {c:Ci} (h:ht c.a + ht c.b.re + ht c.b.im + ht c.c ≤ n):ht c.a ≤ n ∧ HB c.b n ∧ ht c.c ≤ n:=by unfold HB; omega
end
structure PnF (P:Pn):Prop where
 z:P.inf = true → P.z = ⟨0,0⟩
 f:pnfits P = true
theorem pnOk_ex {r:RPn} (h:pnOk r = true):∃ P,r = pnR P ∧ PnF P:=by
 unfold pnOk at h
 split at h
 ·have:=of_decide_eq_true h
  exact ⟨⟨true,⟨0,0⟩⟩,this,fun _=>rfl,rfl⟩
 ·rename_i hi
  obtain ⟨i,z⟩:=r
  cases i with
  | true=>exact absurd rfl hi
  | false =>
   obtain ⟨c,rfl⟩:=gmay_ex h
   rw [gmay_rg] at h
   exact ⟨⟨false,c⟩,rfl,⟨fun h=>(by cases h),h⟩⟩
theorem PnF.ht {P:Pn} (h:PnF P):ht P.z.re + ht P.z.im ≤ 20000:=by
 cases e:P.inf with
 | true=>rw [h.z e]; decide
 | false =>
  have:=h.f
  unfold pnfits at this
  rw [e] at this
  exact gfits_ht2 this
theorem at_T {m:Mb} {p:Pn} {a b:Cx} (e:m.put p = (a,b)) (h:b.zero = true):RPn.mk true rz = pnR (m.send p):=by rw [← send_T e h]; rfl
theorem at_F {m:Mb} {p:Pn} {a b:Cx} (e:m.put p = (a,b)) (h:b.zero = false):RPn.mk false (rg (a.div b)) = pnR (m.send p):=by rw [← send_F e h]; rfl
theorem pnR_I {P:Pn} (h:PnF P) (e:P.inf = true):P = ⟨true,⟨0,0⟩⟩:=by
 obtain ⟨i,z⟩:=P
 cases e
 have:=h.z rfl
 subst this; rfl
theorem img_1 {m:Mb} {c:Ci} (h:m.t = true):Ci.mk (c.at m.undo.a m.undo.c) (c.mid m.undo).conj (c.at m.undo.b m.undo.d) = m.img c:=by unfold Mb.img Ci.im cjC; rw [if_pos h]
theorem img_0 {m:Mb} {c:Ci} (h:m.t = false):Ci.mk (c.at m.undo.a m.undo.c) (c.mid m.undo) (c.at m.undo.b m.undo.d) = m.img c:=by unfold Mb.img Ci.im cjC; rw [if_neg (by rw [h]; decide)]
theorem undo_piv {m:Mb} (h:m.det.zero = false):(Mb.mk (cjC m.t m.d) (cjC m.t m.b.neg) (cjC m.t m.c.neg) (cjC m.t m.a) m.t).piv.zero = false:=by
 cases e:m.t with
 | true=>have:=undo_p1 h e; rw [e] at this; exact this
 | false=>have:=undo_p0 h e; rw [e] at this; exact this
section
variable {m:Mb} {c:Ci} (h:m.det.zero = false) (hc:c.pos = true)
include h hc
theorem imgF_1 (e:m.t = true):(Ci.mk (c.at m.undo.a m.undo.c) (c.mid m.undo).conj (c.at m.undo.b m.undo.d)).flat = false:=by rw [img_1 e]; exact pos_flat (img_pos h hc)
theorem imgF_0 (e:m.t = false):(Ci.mk (c.at m.undo.a m.undo.c) (c.mid m.undo) (c.at m.undo.b m.undo.d)).flat = false:=by rw [img_0 e]; exact pos_flat (img_pos h hc)
end
theorem imgE_1 {m:Mb} {c:Ci} (e:m.t = true):(Ci.mk (c.at m.undo.a m.undo.c) (((((m.undo.a.mul m.undo.b.conj).scale c.a).add ((c.b.mul m.undo.a).mul m.undo.d.conj)).add ((c.b.mul m.undo.b).conj.mul m.undo.c)).add ((m.undo.c.mul m.undo.d.conj).scale c.c)).conj (c.at m.undo.b m.undo.d)).nrm = (m.img c).nrm:=by rw [mid_eq,img_1 e]
theorem imgE_0 {m:Mb} {c:Ci} (e:m.t = false):(Ci.mk (c.at m.undo.a m.undo.c) (((((m.undo.a.mul m.undo.b.conj).scale c.a).add ((c.b.mul m.undo.a).mul m.undo.d.conj)).add ((c.b.mul m.undo.b).conj.mul m.undo.c)).add ((m.undo.c.mul m.undo.d.conj).scale c.c)) (c.at m.undo.b m.undo.d)).nrm = (m.img c).nrm:=by rw [mid_eq,img_0 e]
theorem imgF_1' {m:Mb} {c:Ci} (h:m.det.zero = false) (hc:c.pos = true) (e:m.t = true):(Ci.mk (c.at m.undo.a m.undo.c) (((((m.undo.a.mul m.undo.b.conj).scale c.a).add ((c.b.mul m.undo.a).mul m.undo.d.conj)).add ((c.b.mul m.undo.b).conj.mul m.undo.c)).add ((m.undo.c.mul m.undo.d.conj).scale c.c)).conj (c.at m.undo.b m.undo.d)).flat = false:=by rw [mid_eq]; exact imgF_1 h hc e
theorem imgF_0' {m:Mb} {c:Ci} (h:m.det.zero = false) (hc:c.pos = true) (e:m.t = false):(Ci.mk (c.at m.undo.a m.undo.c) (((((m.undo.a.mul m.undo.b.conj).scale c.a).add ((c.b.mul m.undo.a).mul m.undo.d.conj)).add ((c.b.mul m.undo.b).conj.mul m.undo.c)).add ((m.undo.c.mul m.undo.d.conj).scale c.c)) (c.at m.undo.b m.undo.d)).flat = false:=by rw [mid_eq]; exact imgF_0 h hc e
def Mb.ub (m:Mb) (n:Nat):Prop:=HB m.undo.a n ∧ HB m.undo.b n ∧ HB m.undo.c n ∧ HB m.undo.d n
theorem undo_up {m:Mb} (h:m.ub (6 * 200000)):m.ub 2400000:=by unfold Mb.ub HB at h ⊢; omega
theorem undo_le {m:Mb} {n:Nat} (h:ht m.a.re + ht m.a.im + ht m.b.re + ht m.b.im + ht m.c.re + ht m.c.im + ht m.d.re + ht m.d.im ≤ n):m.ub (6 * n):=by
 unfold Mb.ub HB
 let x:Mb:=Mb.cjM m.t ⟨m.d,m.b.neg,m.c.neg,m.a,m.t⟩
 have h1:=mnrm_ht x
 have h2:=mpiv_ht x
 have c1:=cj_ht m.t m.d
 have c2:=cj_ht m.t m.b.neg
 have c3:=cj_ht m.t m.c.neg
 have c4:=cj_ht m.t m.a
 have n1:=hc_neg m.b
 have n2:=hc_neg m.c
 have e:m.undo = x.nrm:=rfl
 have ea:x.a = cjC m.t m.d:=rfl
 have eb:x.b = cjC m.t m.b.neg:=rfl
 have ec:x.c = cjC m.t m.c.neg:=rfl
 have ed:x.d = cjC m.t m.a:=rfl
 rw [e]
 generalize x = y at *
 unfold Mb.hh Cx.hh at h2
 unfold Cx.hh at h1
 rw [ea,eb,ec,ed] at h2 h1
 omega
theorem at_hb {c:Ci} {v w:Cx} {A B E n k:Nat} (h1:ht c.a ≤ A) (h2:HB c.b B) (h3:ht c.c ≤ E) (hv:HB v n) (hw:HB w k) (N:Nat) (h:A + 4 * n + E + 4 * k + 2 * (2 * (2 * B + 2 * n) + 2 * k) ≤ N:=by decide):ht (c.at v w) ≤ N:=by
 have k1:=HB.mul (HB.mul h2 hv (2 * B + 2 * n) (Nat.le_refl _)) hw.conj (2 * (2 * B + 2 * n) + 2 * k) (Nat.le_refl _)
 have k2:=hb_add k1.1 k1.1 _ (Nat.le_refl _)
 have k3:=hb_mul h1 (hv.norm (4 * n) (Nat.le_refl _)) _ (Nat.le_refl _)
 have k4:=hb_mul h3 (hw.norm (4 * k) (Nat.le_refl _)) _ (Nat.le_refl _)
 exact hb_add (hb_add k3 k4 _ (Nat.le_refl _)) k2 N (by omega)
theorem at_ht {c:Ci} {v w:Cx} {n:Nat} (h:ht c.a + ht c.b.re + ht c.b.im + ht c.c ≤ 40000) (h1:HB v n) (h2:HB w n):ht (c.at v w) ≤ 20 * n + 400000:=by
 obtain ⟨e1,e2,e3⟩:=hb_ci h
 exact at_hb e1 e2 e3 h1 h2 _ (by omega)
theorem mid_ht {c:Ci} {x:Mb} {n:Nat} (h:ht c.a + ht c.b.re + ht c.b.im + ht c.c ≤ 40000) (h1:HB x.a n) (h2:HB x.b n) (h3:HB x.c n) (h4:HB x.d n):ht (c.mid x).re ≤ 40 * n + 400000 ∧ ht (c.mid x).im ≤ 40 * n + 400000:=by
 have z0:=ht_zero
 have k0:=hc_conj x.b
 have k1:=hc_mul x.a x.b.conj
 have k2:=hc_mul (Cx.mk c.a 0) (x.a.mul x.b.conj)
 have k3:=hc_mul c.b x.a
 have k4:=hc_conj x.d
 have k5:=hc_mul (c.b.mul x.a) x.d.conj
 have k7:=hc_mul c.b x.b
 have k8:=hc_conj (c.b.mul x.b)
 have k9:=hc_mul (c.b.mul x.b).conj x.c
 have k11:=hc_mul x.c x.d.conj
 have k12:=hc_mul (Cx.mk c.c 0) (x.c.mul x.d.conj)
 have k6:=hc_add ((Cx.mk c.a 0).mul (x.a.mul x.b.conj)) ((c.b.mul x.a).mul x.d.conj)
 have k10:=hc_add (((Cx.mk c.a 0).mul (x.a.mul x.b.conj)).add ((c.b.mul x.a).mul x.d.conj)) ((c.b.mul x.b).conj.mul x.c)
 have k13:=hc_add ((((Cx.mk c.a 0).mul (x.a.mul x.b.conj)).add ((c.b.mul x.a).mul x.d.conj)).add ((c.b.mul x.b).conj.mul x.c)) ((Cx.mk c.c 0).mul (x.c.mul x.d.conj))
 unfold Ci.mid
 unfold HB at *
 first | omega | (dsimp only at *; omega)
theorem img_le {m:Mb} {c:Ci} (u:m.ub (6 * 200000)) (h:ht c.a + ht c.b.re + ht c.b.im + ht c.c ≤ 40000):ht (m.img c).nrm.a + ht (m.img c).nrm.b.re + ht (m.img c).nrm.b.im + ht (m.img c).nrm.c ≤ 1073741824:=by
 obtain ⟨u1,u2,u3,u4⟩:=u
 have a1:=at_ht h u1 u3
 have a2:=at_ht h u2 u4
 have a3:=mid_ht h u1 u2 u3 u4
 have a4:=cj_ht m.t (c.mid m.undo)
 have e1:(m.img c).a = c.at m.undo.a m.undo.c:=rfl
 have e2:(m.img c).b = cjC m.t (c.mid m.undo):=rfl
 have e3:(m.img c).c = c.at m.undo.b m.undo.d:=rfl
 have h1:=nrm_ht (m.img c)
 have h2:=piv_ht (m.img c)
 unfold Ci.hh Cx.hh at h2
 rw [e1,e2,e3] at h1 h2
 omega
theorem over_dt {c:Ci} (h:ciOk (rci c) = true):c.over.det.zero = false:=by
 cases e:c.over.det.zero with
 | false=>rfl
 | true =>
  have h1:=zero_iff.1 e
  rw [over_det] at h1
  have h2:=pos_iff.1 (ciOk_c h).2.1
  have h3:-c.pow = 0:=congrArg Cx.re h1
  grind
theorem over_ub {c:Ci} (h:ciOk (rci c) = true):c.over.nrm.ub 2400000:=by
 have h1:=undo_up (undo_le (over_l2 (cifits_ht (ciOk_c h).1)))
 unfold Mb.ub at h1 ⊢
 rw [undo_nrm (over_piv (ciOk_c h).2.1)]
 exact h1
theorem over_nl {k:Ci} (h:ht k.a + ht k.b.re + ht k.b.im + ht k.c ≤ 40000):ht k.over.nrm.a.re + ht k.over.nrm.a.im + ht k.over.nrm.b.re + ht k.over.nrm.b.im + ht k.over.nrm.c.re + ht k.over.nrm.c.im + ht k.over.nrm.d.re + ht k.over.nrm.d.im ≤ 60000000:=by
 have h0:=over_l2 h
 have h1:=mnrm_ht k.over
 have h2:=mpiv_ht k.over
 unfold Mb.hh Cx.hh at h2
 unfold Cx.hh at h1
 generalize k.over = y at *
 omega
theorem imgT {c d:Ci} (p0:ciOk (rci c) = true) (p1:ciOk (rci d) = true):Value.tuple #[rciV (cicut (c.over.img d).nrm.nrm),.int .i64 (cierr (c.over.img d).nrm.nrm)] = .tuple #[rciV (cicut (c.over.nrm.img d).nrm),.int .i64 (cierr (c.over.nrm.img d).nrm)]:=by
 rw [img_nrm (over_piv (ciOk_c p0).2.1),nrm_nrm (pos_flat (img_pos (over_dt p0) (ciOk_c p1).2.1))]
theorem pnOk_pnR {P:Pn} (h:PnF P):pnOk (pnR P) = true:=by
 have hf:=h.f
 obtain ⟨i,z⟩:=P
 cases i with
 | true=>exact decide_eq_true (p:=RPn.mk true rz = RPn.mk true rz) rfl
 | false =>
  show gmay (rg z) = true
  rw [gmay_rg]; exact hf
theorem ptT {c:Ci} {P:Pn} (p0:ciOk (rci c) = true):Value.tuple #[rpnV (pncut (c.over.send P)),.int .i64 (pnerr (c.over.send P))] = .tuple #[rpnV (pncut (c.over.nrm.send P)),.int .i64 (pnerr (c.over.nrm.send P))]:=by rw [send_nrm (over_piv (ciOk_c p0).2.1)]
def lgC (c:RCi):Bool:=lgF c.a || lgG c.b || lgF c.c
end Go.Proofs.YtcpjdjnaipbieaaGreat
namespace Go.Proofs.YtcpjdjnaipbieaaGreat
open Go.RowKit Rgn Eng
set_option maxHeartbeats 8000000
set_option maxRecDepth 100000
variable {S:Nat → Prop} {W:World}
theorem p7May (r:RPn):Calls Tryz.prog 90 #[rpnV r] W (RetV (.bool (pnOk r)) W):=by
 refine Run.goP (S:=Z0) (Pack.nil.k (rpnV r) (rpnC r).toList (.s (.agg (ks 0 9)))) Tryz.func90 rfl ?_
 refine (Bool.eq_false_or_eq_true (r.inf)).elim (fun c1=>?_) (fun c1=>?_)
 · refine Run.kn c1 ?_
   refine Run.bi [.bool (decide (r = RPn.mk true rz))] kb (fun _ _ _ o1 o2 _ ho hx hy=>ex_eql_pn (r:=r) (q:=(RPn.mk true rz)) o1 o2 ho hx hy rfl) ?_
   exact Run.rV (spot_1 c1)
 · refine Run.kn c1 ?_
   refine Run.cV [.bool (gmay r.z)] kb (fun _ _ _ H=>cMay r.z) ?_
   exact Run.rV (spot_0 c1)
theorem p11May (r:RPn):Calls Tryz.prog 38 #[rpnV r] W (RetV (.bool (pnOk r)) W):=by
 refine Run.goP (S:=Z0) (Pack.nil.k (rpnV r) (rpnC r).toList (.s (.agg (ks 0 9)))) Tryz.func38 rfl ?_
 refine Run.cV [.bool (pnOk r)] kb (fun _ _ _ H=>p7May r) ?_
 exact Run.rV rfl
theorem l14wide {b0:Nat} (c:RCi) (d:RCi) (B0:W.heap[b0]? = some (.cells (rciC c ++ rciC d) 47 (0,0))):Calls Tryz.prog 30 #[.slice (some ⟨b0,0,none⟩) 2 2] W (RetV (.bool (lgC c || lgC d)) W):=by
 refine Run.goP (S:=Z0) (Pack.nil.b B0 (some 2) 32) Tryz.func30 rfl ?_
 refine Run.cV [.bool (lgF c.a)] kb (fun _ _ _ H=>l14longF c.a) ?_
 refine (Bool.eq_false_or_eq_true (lgF c.a)).elim (fun c1=>?_) (fun c1=>?_)
 · refine Run.kn c1 ?_
   exact Run.rV (V' := .bool true) ((by unfold lgC; simp [c1]))
 · refine Run.kn c1 ?_
   refine Run.cV [.bool (lgG c.b)] kb (fun _ _ _ H=>l14long1 c.b (H.b 1)) ?_
   refine (Bool.eq_false_or_eq_true (lgG c.b)).elim (fun c2=>?_) (fun c2=>?_)
   · refine Run.kn c2 ?_
     exact Run.rV (V' := .bool true) ((by unfold lgC; simp [c1,c2]))
   · refine Run.kn c2 ?_
     refine Run.cV [.bool (lgF c.c)] kb (fun _ _ _ H=>l14longF c.c) ?_
     refine (Bool.eq_false_or_eq_true (lgF c.c)).elim (fun c3=>?_) (fun c3=>?_)
     · refine Run.kn c3 ?_
       exact Run.rV (V' := .bool true) ((by unfold lgC; simp [c1,c2,c3]))
     · refine Run.kn c3 ?_
       refine Run.cV [.bool (lgF d.a)] kb (fun _ _ _ H=>l14longF d.a) ?_
       refine (Bool.eq_false_or_eq_true (lgF d.a)).elim (fun c4=>?_) (fun c4=>?_)
       · refine Run.kn c4 ?_
         exact Run.rV (V' := .bool true) ((by unfold lgC; simp [c1,c2,c3,c4]))
       · refine Run.kn c4 ?_
         refine Run.cV [.bool (lgG d.b)] kb (fun _ _ _ H=>l14long1 d.b (H.b 2)) ?_
         refine (Bool.eq_false_or_eq_true (lgG d.b)).elim (fun c5=>?_) (fun c5=>?_)
         · refine Run.kn c5 ?_
           exact Run.rV (V' := .bool true) ((by unfold lgC; simp [c1,c2,c3,c4,c5]))
         · refine Run.kn c5 ?_
           refine Run.cV [.bool (lgF d.c)] kb (fun _ _ _ H=>l14longF d.c) ?_
           refine (Bool.eq_false_or_eq_true (lgF d.c)).elim (fun c6=>?_) (fun c6=>?_)
           · refine Run.kn c6 ?_
             exact Run.rV (V' := .bool true) ((by unfold lgC; simp [c1,c2,c3,c4,c5,c6]))
           · refine Run.kn c6 ?_
             exact Run.rV (V' := .bool false) ((by unfold lgC; simp [c1,c2,c3,c4,c5,c6]))
theorem m8AtI (m:Mb) (p0:ht m.a.re + ht m.a.im + ht m.b.re + ht m.b.im + ht m.c.re + ht m.c.im + ht m.d.re + ht m.d.im ≤ 67108864):Calls Tryz.prog 40 #[mbV m,rpnV (RPn.mk true rz)] W (RetV (rpnV (pnR (m.send ⟨true,⟨0,0⟩⟩))) W):=by
 have k0:=hc_div m.a m.c
 refine Run.goP (S:=Z0) ((Pack.nil.k (mbV m) (mbC m).toList (.s (.agg (ks 0 33)))).k (rpnV (RPn.mk true rz)) (rpnC (RPn.mk true rz)).toList (.s (.agg (ks 0 9)))) Tryz.func40 rfl ?_
 refine Run.kn (b:=true) rfl ?_
 refine Run.cV [.bool m.c.zero] kb (fun _ _ _ H=>cZero m.c) ?_
 refine (Bool.eq_false_or_eq_true (m.c.zero)).elim (fun c1=>?_) (fun c1=>?_)
 · refine Run.kn c1 ?_
   exact Run.rV (congrArg rpnV (at_T (put_i (p:=⟨true,⟨0,0⟩⟩) rfl) c1))
 · refine Run.kn c1 ?_
   refine Run.cV (gC (m.a.div m.c)).toList (.s (.agg (ks 0 8))) (fun _ _ _ H=>cOver m.a m.c (by first | omega | (dsimp only at *; omega) | exact zero_norm c1) (by first | omega | (dsimp only at *; omega) | exact zero_norm c1)) ?_
   exact Run.rV (congrArg rpnV (at_F (put_i (p:=⟨true,⟨0,0⟩⟩) rfl) c1))
theorem m8AtZ (z:Cx) (m:Mb) (p0:ht m.a.re + ht m.a.im + ht m.b.re + ht m.b.im + ht m.c.re + ht m.c.im + ht m.d.re + ht m.d.im + (ht z.re + ht z.im) ≤ 67108864):Calls Tryz.prog 40 #[mbV m,pnV (Pn.mk false z)] W (RetV (rpnV (pnR (m.send ⟨false,z⟩))) W):=by
 have k0:=hc_conj z
 have k1:=hc_mul m.c z.conj
 have k2:=hc_add (m.c.mul z.conj) m.d
 have k3:=hc_mul m.a z.conj
 have k4:=hc_add (m.a.mul z.conj) m.b
 have k5:=hc_div ((m.a.mul z.conj).add m.b) ((m.c.mul z.conj).add m.d)
 have k6:=hc_mul m.c z
 have k7:=hc_add (m.c.mul z) m.d
 have k8:=hc_mul m.a z
 have k9:=hc_add (m.a.mul z) m.b
 have k10:=hc_div ((m.a.mul z).add m.b) ((m.c.mul z).add m.d)
 refine Run.goP (S:=Z0) ((Pack.nil.k (mbV m) (mbC m).toList (.s (.agg (ks 0 33)))).k (pnV (Pn.mk false z)) (pnC (Pn.mk false z)).toList (.s (.agg (ks 0 9)))) Tryz.func40 rfl ?_
 refine Run.kn (b:=false) rfl ?_
 refine (Bool.eq_false_or_eq_true (m.t)).elim (fun c1=>?_) (fun c1=>?_)
 · refine Run.kn c1 ?_
   refine Run.cV (gC z.conj).toList (.s (.agg (ks 0 8))) (fun _ _ _ H=>cConj z) ?_
   refine Run.dr ?_
   refine RunD.cV (gC (m.c.mul z.conj)).toList (.s (.agg (ks 0 8))) (fun _ _ _ H=>cTimes m.c z.conj (by first | omega | (dsimp only at *; omega) | exact zero_norm _)) ?_
   refine RunD.cV (gC ((m.c.mul z.conj).add m.d)).toList (.s (.agg (ks 0 8))) (fun _ _ _ H=>cPlus (m.c.mul z.conj) m.d (by first | omega | (dsimp only at *; omega) | exact zero_norm _)) ?_
   refine RunD.en ?_
   refine Run.cV [.bool (((m.c.mul z.conj).add m.d).zero)] kb (fun _ _ _ H=>cZero ((m.c.mul z.conj).add m.d)) ?_
   refine (Bool.eq_false_or_eq_true (((m.c.mul z.conj).add m.d).zero)).elim (fun c2=>?_) (fun c2=>?_)
   · refine Run.kn c2 ?_
     exact Run.rV (congrArg rpnV (at_T (put_n1 (p:=⟨false,z⟩) rfl c1) c2))
   · refine Run.kn c2 ?_
     refine Run.dr ?_
     refine RunD.cV (gC (m.a.mul z.conj)).toList (.s (.agg (ks 0 8))) (fun _ _ _ H=>cTimes m.a z.conj (by first | omega | (dsimp only at *; omega) | exact zero_norm c2)) ?_
     refine RunD.cV (gC ((m.a.mul z.conj).add m.b)).toList (.s (.agg (ks 0 8))) (fun _ _ _ H=>cPlus (m.a.mul z.conj) m.b (by first | omega | (dsimp only at *; omega) | exact zero_norm c2)) ?_
     refine RunD.cV (gC (((m.a.mul z.conj).add m.b).div ((m.c.mul z.conj).add m.d))).toList (.s (.agg (ks 0 8))) (fun _ _ _ H=>cOver ((m.a.mul z.conj).add m.b) ((m.c.mul z.conj).add m.d) (by first | omega | (dsimp only at *; omega) | exact zero_norm c2) (by first | omega | (dsimp only at *; omega) | exact zero_norm c2)) ?_
     refine RunD.en ?_
     exact Run.rV (congrArg rpnV (at_F (put_n1 (p:=⟨false,z⟩) rfl c1) c2))
 · refine Run.kn c1 ?_
   refine Run.dr ?_
   refine RunD.cV (gC (m.c.mul z)).toList (.s (.agg (ks 0 8))) (fun _ _ _ H=>cTimes m.c z (by first | omega | (dsimp only at *; omega) | exact zero_norm _)) ?_
   refine RunD.cV (gC ((m.c.mul z).add m.d)).toList (.s (.agg (ks 0 8))) (fun _ _ _ H=>cPlus (m.c.mul z) m.d (by first | omega | (dsimp only at *; omega) | exact zero_norm _)) ?_
   refine RunD.en ?_
   refine Run.cV [.bool (((m.c.mul z).add m.d).zero)] kb (fun _ _ _ H=>cZero ((m.c.mul z).add m.d)) ?_
   refine (Bool.eq_false_or_eq_true (((m.c.mul z).add m.d).zero)).elim (fun c3=>?_) (fun c3=>?_)
   · refine Run.kn c3 ?_
     exact Run.rV (congrArg rpnV (at_T (put_n0 (p:=⟨false,z⟩) rfl c1) c3))
   · refine Run.kn c3 ?_
     refine Run.dr ?_
     refine RunD.cV (gC (m.a.mul z)).toList (.s (.agg (ks 0 8))) (fun _ _ _ H=>cTimes m.a z (by first | omega | (dsimp only at *; omega) | exact zero_norm c3)) ?_
     refine RunD.cV (gC ((m.a.mul z).add m.b)).toList (.s (.agg (ks 0 8))) (fun _ _ _ H=>cPlus (m.a.mul z) m.b (by first | omega | (dsimp only at *; omega) | exact zero_norm c3)) ?_
     refine RunD.cV (gC (((m.a.mul z).add m.b).div ((m.c.mul z).add m.d))).toList (.s (.agg (ks 0 8))) (fun _ _ _ H=>cOver ((m.a.mul z).add m.b) ((m.c.mul z).add m.d) (by first | omega | (dsimp only at *; omega) | exact zero_norm c3) (by first | omega | (dsimp only at *; omega) | exact zero_norm c3)) ?_
     refine RunD.en ?_
     exact Run.rV (congrArg rpnV (at_F (put_n0 (p:=⟨false,z⟩) rfl c1) c3))
theorem c11Img (m:Mb) (c:Ci) (p0:ht m.a.re + ht m.a.im + ht m.b.re + ht m.b.im + ht m.c.re + ht m.c.im + ht m.d.re + ht m.d.im ≤ 268435456) (p1:m.ub 2400000) (p2:ht c.a + ht c.b.re + ht c.b.im + ht c.c ≤ 400000) (p3:m.det.zero = false) (p4:c.pos = true):Calls Tryz.prog 41 #[mbV m,ciV c] W (RetV (ciV ((m.img c).nrm)) W):=by
 obtain ⟨e1,e2,e3⟩:=hb_ci p2
 have k0:=HB.conj p1.2.1
 have k1:=HB.conj p1.2.2.1
 have k2:=HB.conj p1.2.2.2
 have k3:=HB.mul e2 p1.1 5600000
 have k4:=HB.mul e2 p1.2.1 5600000
 have k5:=HB.norm p1.1 9600000
 have k6:=hb_mul e1 k5 10000000
 have k7:=HB.norm p1.2.2.1 9600000
 have k8:=hb_mul e3 k7 10000000
 have k9:=hb_add k6 k8 20000000
 have k10:=HB.mul k3 k1 16000000
 have k11:=hb_add k10.1 k10.1 32000000
 have k12:=hb_add k9 k11 52000000
 have k13:=HB.norm p1.2.1 9600000
 have k14:=hb_mul e1 k13 10000000
 have k15:=HB.norm p1.2.2.2 9600000
 have k16:=hb_mul e3 k15 10000000
 have k17:=hb_add k14 k16 20000000
 have k18:=HB.mul k4 k2 16000000
 have k19:=hb_add k18.1 k18.1 32000000
 have k20:=hb_add k17 k19 52000000
 have k21:=HB.mul p1.1 k0 9600000
 have k22:=HB.mul (HB.two (z:=Cx.mk c.a (0:Rat)) e1 (Nat.le_of_eq ht_zero) 400000) k21 20000000
 have k23:=HB.mul k3 k2 16000000
 have k24:=HB.add k22 k23 36000000
 have k25:=HB.conj k4
 have k26:=HB.mul k25 p1.2.2.1 16000000
 have k27:=HB.add k24 k26 52000000
 have k28:=HB.mul p1.2.2.1 k2 9600000
 have k29:=HB.mul (HB.two (z:=Cx.mk c.c (0:Rat)) e3 (Nat.le_of_eq ht_zero) 400000) k28 20000000
 have k30:=HB.add k27 k29 72000000
 have k31:=HB.conj k30
 refine Run.goP (S:=Z0) ((Pack.nil.k (mbV m) (mbC m).toList (.s (.agg (ks 0 33)))).k (ciV c) (ciC c).toList (.s (.agg (ks 0 16)))) Tryz.func41 rfl ?_
 refine Run.cV (mbC m.undo).toList (.s (.agg (ks 0 33))) (fun _ _ _ H=>m8Inv m p0 (by exact undo_piv p3)) ?_
 refine Run.dr ?_
 refine RunD.en ?_
 refine Run.dr ?_
 refine RunD.cV (gC m.undo.b.conj).toList (.s (.agg (ks 0 8))) (fun _ _ _ H=>cConj m.undo.b) ?_
 refine RunD.cV (gC m.undo.c.conj).toList (.s (.agg (ks 0 8))) (fun _ _ _ H=>cConj m.undo.c) ?_
 refine RunD.cV (gC m.undo.d.conj).toList (.s (.agg (ks 0 8))) (fun _ _ _ H=>cConj m.undo.d) ?_
 refine RunD.en ?_
 refine Run.dr ?_
 refine RunD.cV (gC (c.b.mul m.undo.a)).toList (.s (.agg (ks 0 8))) (fun _ _ _ H=>cTimes c.b m.undo.a (Nat.le_trans (Nat.add_le_add (Nat.add_le_add (Nat.add_le_add e2.1 e2.2) p1.1.1) p1.1.2) (by decide))) ?_
 refine RunD.cV (gC (c.b.mul m.undo.b)).toList (.s (.agg (ks 0 8))) (fun _ _ _ H=>cTimes c.b m.undo.b (Nat.le_trans (Nat.add_le_add (Nat.add_le_add (Nat.add_le_add e2.1 e2.2) p1.2.1.1) p1.2.1.2) (by decide))) ?_
 refine RunD.en ?_
 refine Run.dr ?_
 refine RunD.cV (fC m.undo.a.norm).toList (.s (.agg (ks 0 4))) (fun _ _ _ H=>cNorm m.undo.a (Nat.le_trans (Nat.add_le_add p1.1.1 p1.1.2) (by decide))) ?_
 refine RunD.cV (fC (c.a * m.undo.a.norm)).toList (.s (.agg (ks 0 4))) (fun _ _ _ H=>fTimes c.a m.undo.a.norm (Nat.le_trans (Nat.add_le_add e1 k5) (by decide))) ?_
 refine RunD.cV (fC m.undo.c.norm).toList (.s (.agg (ks 0 4))) (fun _ _ _ H=>cNorm m.undo.c (Nat.le_trans (Nat.add_le_add p1.2.2.1.1 p1.2.2.1.2) (by decide))) ?_
 refine RunD.cV (fC (c.c * m.undo.c.norm)).toList (.s (.agg (ks 0 4))) (fun _ _ _ H=>fTimes c.c m.undo.c.norm (Nat.le_trans (Nat.add_le_add e3 k7) (by decide))) ?_
 refine RunD.cV (fC ((c.a * m.undo.a.norm) + (c.c * m.undo.c.norm))).toList (.s (.agg (ks 0 4))) (fun _ _ _ H=>fPlus (c.a * m.undo.a.norm) (c.c * m.undo.c.norm) (Nat.le_trans (Nat.add_le_add k6 k8) (by decide))) ?_
 refine RunD.en ?_
 refine Run.dr ?_
 refine RunD.cV (gC ((c.b.mul m.undo.a).mul m.undo.c.conj)).toList (.s (.agg (ks 0 8))) (fun _ _ _ H=>cTimes (c.b.mul m.undo.a) m.undo.c.conj (Nat.le_trans (Nat.add_le_add (Nat.add_le_add (Nat.add_le_add k3.1 k3.2) k1.1) k1.2) (by decide))) ?_
 refine RunD.cV (fC ((((c.b.mul m.undo.a).mul m.undo.c.conj).re) + (((c.b.mul m.undo.a).mul m.undo.c.conj).re))).toList (.s (.agg (ks 0 4))) (fun _ _ _ H=>c11Twice (((c.b.mul m.undo.a).mul m.undo.c.conj).re) (Nat.le_trans k10.1 (by decide))) ?_
 refine RunD.cV (fC (((c.a * m.undo.a.norm) + (c.c * m.undo.c.norm)) + ((((c.b.mul m.undo.a).mul m.undo.c.conj).re) + (((c.b.mul m.undo.a).mul m.undo.c.conj).re)))).toList (.s (.agg (ks 0 4))) (fun _ _ _ H=>fPlus ((c.a * m.undo.a.norm) + (c.c * m.undo.c.norm)) ((((c.b.mul m.undo.a).mul m.undo.c.conj).re) + (((c.b.mul m.undo.a).mul m.undo.c.conj).re)) (Nat.le_trans (Nat.add_le_add k9 k11) (by decide))) ?_
 refine RunD.en ?_
 refine Run.dr ?_
 refine RunD.cV (fC m.undo.b.norm).toList (.s (.agg (ks 0 4))) (fun _ _ _ H=>cNorm m.undo.b (Nat.le_trans (Nat.add_le_add p1.2.1.1 p1.2.1.2) (by decide))) ?_
 refine RunD.cV (fC (c.a * m.undo.b.norm)).toList (.s (.agg (ks 0 4))) (fun _ _ _ H=>fTimes c.a m.undo.b.norm (Nat.le_trans (Nat.add_le_add e1 k13) (by decide))) ?_
 refine RunD.cV (fC m.undo.d.norm).toList (.s (.agg (ks 0 4))) (fun _ _ _ H=>cNorm m.undo.d (Nat.le_trans (Nat.add_le_add p1.2.2.2.1 p1.2.2.2.2) (by decide))) ?_
 refine RunD.cV (fC (c.c * m.undo.d.norm)).toList (.s (.agg (ks 0 4))) (fun _ _ _ H=>fTimes c.c m.undo.d.norm (Nat.le_trans (Nat.add_le_add e3 k15) (by decide))) ?_
 refine RunD.cV (fC ((c.a * m.undo.b.norm) + (c.c * m.undo.d.norm))).toList (.s (.agg (ks 0 4))) (fun _ _ _ H=>fPlus (c.a * m.undo.b.norm) (c.c * m.undo.d.norm) (Nat.le_trans (Nat.add_le_add k14 k16) (by decide))) ?_
 refine RunD.en ?_
 refine Run.dr ?_
 refine RunD.cV (gC ((c.b.mul m.undo.b).mul m.undo.d.conj)).toList (.s (.agg (ks 0 8))) (fun _ _ _ H=>cTimes (c.b.mul m.undo.b) m.undo.d.conj (Nat.le_trans (Nat.add_le_add (Nat.add_le_add (Nat.add_le_add k4.1 k4.2) k2.1) k2.2) (by decide))) ?_
 refine RunD.cV (fC ((((c.b.mul m.undo.b).mul m.undo.d.conj).re) + (((c.b.mul m.undo.b).mul m.undo.d.conj).re))).toList (.s (.agg (ks 0 4))) (fun _ _ _ H=>c11Twice (((c.b.mul m.undo.b).mul m.undo.d.conj).re) (Nat.le_trans k18.1 (by decide))) ?_
 refine RunD.cV (fC (((c.a * m.undo.b.norm) + (c.c * m.undo.d.norm)) + ((((c.b.mul m.undo.b).mul m.undo.d.conj).re) + (((c.b.mul m.undo.b).mul m.undo.d.conj).re)))).toList (.s (.agg (ks 0 4))) (fun _ _ _ H=>fPlus ((c.a * m.undo.b.norm) + (c.c * m.undo.d.norm)) ((((c.b.mul m.undo.b).mul m.undo.d.conj).re) + (((c.b.mul m.undo.b).mul m.undo.d.conj).re)) (Nat.le_trans (Nat.add_le_add k17 k19) (by decide))) ?_
 refine RunD.en ?_
 refine Run.dr ?_
 refine RunD.cV (fC (0:Rat)).toList (.s (.agg (ks 0 4))) (fun _ _ _ H=>fInt 0 (by decide) (by decide)) ?_
 refine RunD.en ?_
 refine Run.dr ?_
 refine RunD.cV (fC (0:Rat)).toList (.s (.agg (ks 0 4))) (fun _ _ _ H=>fInt 0 (by decide) (by decide)) ?_
 refine RunD.en ?_
 refine Run.dr ?_
 refine RunD.cV (gC (m.undo.a.mul m.undo.b.conj)).toList (.s (.agg (ks 0 8))) (fun _ _ _ H=>cTimes m.undo.a m.undo.b.conj (Nat.le_trans (Nat.add_le_add (Nat.add_le_add (Nat.add_le_add p1.1.1 p1.1.2) k0.1) k0.2) (by decide))) ?_
 refine RunD.cV (gC ((Cx.mk c.a (0:Rat)).mul (m.undo.a.mul m.undo.b.conj))).toList (.s (.agg (ks 0 8))) (fun _ _ _ H=>cTimes (Cx.mk c.a (0:Rat)) (m.undo.a.mul m.undo.b.conj) (Nat.le_trans (Nat.add_le_add (Nat.add_le_add (Nat.add_le_add e1 (Nat.le_of_eq ht_zero)) k21.1) k21.2) (by decide))) ?_
 refine RunD.cV (gC ((c.b.mul m.undo.a).mul m.undo.d.conj)).toList (.s (.agg (ks 0 8))) (fun _ _ _ H=>cTimes (c.b.mul m.undo.a) m.undo.d.conj (Nat.le_trans (Nat.add_le_add (Nat.add_le_add (Nat.add_le_add k3.1 k3.2) k2.1) k2.2) (by decide))) ?_
 refine RunD.cV (gC (((Cx.mk c.a (0:Rat)).mul (m.undo.a.mul m.undo.b.conj)).add ((c.b.mul m.undo.a).mul m.undo.d.conj))).toList (.s (.agg (ks 0 8))) (fun _ _ _ H=>cPlus ((Cx.mk c.a (0:Rat)).mul (m.undo.a.mul m.undo.b.conj)) ((c.b.mul m.undo.a).mul m.undo.d.conj) (Nat.le_trans (Nat.add_le_add (Nat.add_le_add (Nat.add_le_add k22.1 k22.2) k23.1) k23.2) (by decide))) ?_
 refine RunD.en ?_
 refine Run.dr ?_
 refine RunD.cV (gC ((c.b.mul m.undo.b).conj)).toList (.s (.agg (ks 0 8))) (fun _ _ _ H=>cConj (c.b.mul m.undo.b)) ?_
 refine RunD.cV (gC (((c.b.mul m.undo.b).conj).mul m.undo.c)).toList (.s (.agg (ks 0 8))) (fun _ _ _ H=>cTimes ((c.b.mul m.undo.b).conj) m.undo.c (Nat.le_trans (Nat.add_le_add (Nat.add_le_add (Nat.add_le_add k25.1 k25.2) p1.2.2.1.1) p1.2.2.1.2) (by decide))) ?_
 refine RunD.cV (gC ((((Cx.mk c.a (0:Rat)).mul (m.undo.a.mul m.undo.b.conj)).add ((c.b.mul m.undo.a).mul m.undo.d.conj)).add (((c.b.mul m.undo.b).conj).mul m.undo.c))).toList (.s (.agg (ks 0 8))) (fun _ _ _ H=>cPlus (((Cx.mk c.a (0:Rat)).mul (m.undo.a.mul m.undo.b.conj)).add ((c.b.mul m.undo.a).mul m.undo.d.conj)) (((c.b.mul m.undo.b).conj).mul m.undo.c) (Nat.le_trans (Nat.add_le_add (Nat.add_le_add (Nat.add_le_add k24.1 k24.2) k26.1) k26.2) (by decide))) ?_
 refine RunD.en ?_
 refine Run.dr ?_
 refine RunD.cV (gC (m.undo.c.mul m.undo.d.conj)).toList (.s (.agg (ks 0 8))) (fun _ _ _ H=>cTimes m.undo.c m.undo.d.conj (Nat.le_trans (Nat.add_le_add (Nat.add_le_add (Nat.add_le_add p1.2.2.1.1 p1.2.2.1.2) k2.1) k2.2) (by decide))) ?_
 refine RunD.cV (gC ((Cx.mk c.c (0:Rat)).mul (m.undo.c.mul m.undo.d.conj))).toList (.s (.agg (ks 0 8))) (fun _ _ _ H=>cTimes (Cx.mk c.c (0:Rat)) (m.undo.c.mul m.undo.d.conj) (Nat.le_trans (Nat.add_le_add (Nat.add_le_add (Nat.add_le_add e3 (Nat.le_of_eq ht_zero)) k28.1) k28.2) (by decide))) ?_
 refine RunD.cV (gC (((((Cx.mk c.a (0:Rat)).mul (m.undo.a.mul m.undo.b.conj)).add ((c.b.mul m.undo.a).mul m.undo.d.conj)).add (((c.b.mul m.undo.b).conj).mul m.undo.c)).add ((Cx.mk c.c (0:Rat)).mul (m.undo.c.mul m.undo.d.conj)))).toList (.s (.agg (ks 0 8))) (fun _ _ _ H=>cPlus ((((Cx.mk c.a (0:Rat)).mul (m.undo.a.mul m.undo.b.conj)).add ((c.b.mul m.undo.a).mul m.undo.d.conj)).add (((c.b.mul m.undo.b).conj).mul m.undo.c)) ((Cx.mk c.c (0:Rat)).mul (m.undo.c.mul m.undo.d.conj)) (Nat.le_trans (Nat.add_le_add (Nat.add_le_add (Nat.add_le_add k27.1 k27.2) k29.1) k29.2) (by decide))) ?_
 refine RunD.en ?_
 refine (Bool.eq_false_or_eq_true (m.t)).elim (fun c1=>?_) (fun c1=>?_)
 · refine Run.kn c1 ?_
   refine Run.cV (gC ((((((Cx.mk c.a (0:Rat)).mul (m.undo.a.mul m.undo.b.conj)).add ((c.b.mul m.undo.a).mul m.undo.d.conj)).add (((c.b.mul m.undo.b).conj).mul m.undo.c)).add ((Cx.mk c.c (0:Rat)).mul (m.undo.c.mul m.undo.d.conj))).conj)).toList (.s (.agg (ks 0 8))) (fun _ _ _ H=>cConj (((((Cx.mk c.a (0:Rat)).mul (m.undo.a.mul m.undo.b.conj)).add ((c.b.mul m.undo.a).mul m.undo.d.conj)).add (((c.b.mul m.undo.b).conj).mul m.undo.c)).add ((Cx.mk c.c (0:Rat)).mul (m.undo.c.mul m.undo.d.conj)))) ?_
   refine Run.cV (ciC ((Ci.mk (((c.a * m.undo.a.norm) + (c.c * m.undo.c.norm)) + ((((c.b.mul m.undo.a).mul m.undo.c.conj).re) + (((c.b.mul m.undo.a).mul m.undo.c.conj).re))) ((((((Cx.mk c.a (0:Rat)).mul (m.undo.a.mul m.undo.b.conj)).add ((c.b.mul m.undo.a).mul m.undo.d.conj)).add (((c.b.mul m.undo.b).conj).mul m.undo.c)).add ((Cx.mk c.c (0:Rat)).mul (m.undo.c.mul m.undo.d.conj))).conj) (((c.a * m.undo.b.norm) + (c.c * m.undo.d.norm)) + ((((c.b.mul m.undo.b).mul m.undo.d.conj).re) + (((c.b.mul m.undo.b).mul m.undo.d.conj).re)))).nrm)).toList (.s (.agg (ks 0 16))) (fun _ _ _ H=>c11Norm (((c.a * m.undo.a.norm) + (c.c * m.undo.c.norm)) + ((((c.b.mul m.undo.a).mul m.undo.c.conj).re) + (((c.b.mul m.undo.a).mul m.undo.c.conj).re))) ((((((Cx.mk c.a (0:Rat)).mul (m.undo.a.mul m.undo.b.conj)).add ((c.b.mul m.undo.a).mul m.undo.d.conj)).add (((c.b.mul m.undo.b).conj).mul m.undo.c)).add ((Cx.mk c.c (0:Rat)).mul (m.undo.c.mul m.undo.d.conj))).conj) (((c.a * m.undo.b.norm) + (c.c * m.undo.d.norm)) + ((((c.b.mul m.undo.b).mul m.undo.d.conj).re) + (((c.b.mul m.undo.b).mul m.undo.d.conj).re))) (Nat.le_trans (Nat.add_le_add (Nat.add_le_add (Nat.add_le_add k12 k31.1) k31.2) k20) (by decide)) (by first | exact imgF_1 p3 p4 c1 | exact imgF_0 p3 p4 c1)) ?_
   exact Run.rV (congrArg (fun x=>ciV x.nrm) (img_1 c1))
 · refine Run.kn c1 ?_
   refine Run.cV (ciC ((Ci.mk (((c.a * m.undo.a.norm) + (c.c * m.undo.c.norm)) + ((((c.b.mul m.undo.a).mul m.undo.c.conj).re) + (((c.b.mul m.undo.a).mul m.undo.c.conj).re))) (((((Cx.mk c.a (0:Rat)).mul (m.undo.a.mul m.undo.b.conj)).add ((c.b.mul m.undo.a).mul m.undo.d.conj)).add (((c.b.mul m.undo.b).conj).mul m.undo.c)).add ((Cx.mk c.c (0:Rat)).mul (m.undo.c.mul m.undo.d.conj))) (((c.a * m.undo.b.norm) + (c.c * m.undo.d.norm)) + ((((c.b.mul m.undo.b).mul m.undo.d.conj).re) + (((c.b.mul m.undo.b).mul m.undo.d.conj).re)))).nrm)).toList (.s (.agg (ks 0 16))) (fun _ _ _ H=>c11Norm (((c.a * m.undo.a.norm) + (c.c * m.undo.c.norm)) + ((((c.b.mul m.undo.a).mul m.undo.c.conj).re) + (((c.b.mul m.undo.a).mul m.undo.c.conj).re))) (((((Cx.mk c.a (0:Rat)).mul (m.undo.a.mul m.undo.b.conj)).add ((c.b.mul m.undo.a).mul m.undo.d.conj)).add (((c.b.mul m.undo.b).conj).mul m.undo.c)).add ((Cx.mk c.c (0:Rat)).mul (m.undo.c.mul m.undo.d.conj))) (((c.a * m.undo.b.norm) + (c.c * m.undo.d.norm)) + ((((c.b.mul m.undo.b).mul m.undo.d.conj).re) + (((c.b.mul m.undo.b).mul m.undo.d.conj).re))) (Nat.le_trans (Nat.add_le_add (Nat.add_le_add (Nat.add_le_add k12 k30.1) k30.2) k20) (by decide)) (by first | exact imgF_1 p3 p4 c1 | exact imgF_0 p3 p4 c1)) ?_
   exact Run.rV (congrArg (fun x=>ciV x.nrm) (img_0 c1))
theorem mtAt {v0 v1 w2_0 w2_1 w2_2 w2_3:Value} {b2:Nat} (v:Cx) (w:Cx) (c:Ci) (t0:(NumP v).p S v0 W) (t1:(NumP w).p S v1 W) (B2:W.heap[b2]? = some (.cells #[w2_0,w2_1,w2_2,w2_3] 203 (0,0))) (t2:(RingP c).p S (.agg #[w2_0,w2_1,w2_2,w2_3]) W) (p0:ht v.re + ht v.im + ht w.re + ht w.im ≤ 10000000) (p1:ht c.a + ht c.b.re + ht c.b.im + ht c.c ≤ 400000):Calls Tryz.prog 243 #[v0,v1,.pointer (some ⟨b2,0,none⟩)] W (Ret (RatP (c.at v w)) S W):=by
 obtain ⟨e1,e2,e3⟩:=hb_ci p1
 obtain ⟨f1,f2⟩:HB v 10000000 ∧ HB w 10000000:=(by unfold HB; omega)
 have k0:=HB.mul e2 f1 20800000
 have k1:=HB.conj f2
 have k2:=HB.mul k0 k1 61600000
 have k3:=HB.norm f1 40000000
 have k4:=hb_mul e1 k3 40400000
 have k5:=hb_add k2.1 k2.1 123200000
 have k6:=HB.norm f2 40000000
 have k7:=hb_mul e3 k6 40400000
 have k8:=(hb_add (hb_add (hb_add (Nat.le_of_eq ht_zero) k4 40400002) k5 163600002) k7 204000002)
 refine Run.goP (S:=S) (((Pack.nil.s spNum t0).s spNum t1).bv B2 none 4 (ringCells t2)) Tryz.func243 rfl ?_
 refine Run.dr ?_
 refine RunD.cR spNum (fun _ _ _ H=>eNMul c.b v (NumP.mk (H.f 5) (H.f 6)) (NumP.mk (H.f 0) (H.f 1)) (Nat.le_trans (Nat.add_le_add (Nat.add_le_add (Nat.add_le_add e2.1 e2.2) f1.1) f1.2) (by decide))) ?_
 refine RunD.cR spNum (fun _ _ _ H=>eConj w (NumP.mk (H.f 2) (H.f 3)) (Nat.le_trans (Nat.add_le_add f2.1 f2.2) (by decide))) ?_
 refine RunD.cR spNum (fun _ _ _ H=>eNMul (c.b.mul v) w.conj (NumP.mk (H.f 8) (H.f 9)) (NumP.mk (H.f 10) (H.f 11)) (Nat.le_trans (Nat.add_le_add (Nat.add_le_add (Nat.add_le_add k0.1 k0.2) k1.1) k1.2) (by decide))) ?_
 refine RunD.cR sp2Rat (fun _ _ _ H=>eParts ((c.b.mul v).mul w.conj) (NumP.mk (H.f 12) (H.f 13))) ?_
 refine RunD.en ?_
 refine Run.dr ?_
 refine RunD.cR spRat (fun _ _ _ H=>eNorm v (NumP.mk (H.f 0) (H.f 1)) (Nat.le_trans (Nat.add_le_add f1.1 f1.2) (by decide))) ?_
 refine RunD.cR spRat (fun _ _ _ H=>eMul c.a v.norm (RatP.n (H.f 4)) (RatP.n (H.f 16)) (Nat.le_trans (Nat.add_le_add e1 k3) (by decide))) ?_
 refine RunD.cR spRat (fun _ _ _ H=>eTwice (((c.b.mul v).mul w.conj).re) (H.f 14) (Nat.le_trans k2.1 (by decide))) ?_
 refine RunD.cR spRat (fun _ _ _ H=>eNorm w (NumP.mk (H.f 2) (H.f 3)) (Nat.le_trans (Nat.add_le_add f2.1 f2.2) (by decide))) ?_
 refine RunD.cR spRat (fun _ _ _ H=>eMul c.c w.norm (RatP.n (H.f 7)) (RatP.n (H.f 19)) (Nat.le_trans (Nat.add_le_add e3 k6) (by decide))) ?_
 refine RunD.cR spRat (fun _ _ _ H=>retZ (eSum3 (c.a * v.norm) ((((c.b.mul v).mul w.conj).re) + (((c.b.mul v).mul w.conj).re)) (c.c * w.norm) (RatsP.mk3 (H.b 3) (H.f 17) (H.f 18) (H.f 20)) (Nat.le_trans (Nat.add_le_add (Nat.add_le_add k4 k5) k7) (by decide)))) ?_
 refine RunD.en ?_
 exact Run.rR (fun _ _ _ H=>VPe (φ:=RatP) (at_eq c v w) (H.f 21))
theorem mtImg {v0 v1:Value} (m:Mb) (c:Ci) (t0:(MatP m).p S v0 W) (t1:(RingP c).p S v1 W) (p0:ht m.a.re + ht m.a.im + ht m.b.re + ht m.b.im + ht m.c.re + ht m.c.im + ht m.d.re + ht m.d.im ≤ 268435456) (p1:m.ub 2400000) (p2:ht c.a + ht c.b.re + ht c.b.im + ht c.c ≤ 400000) (p3:m.det.zero = false) (p4:c.pos = true):Calls Tryz.prog 159 #[v0,v1] W (Ret (RingP ((m.img c).nrm)) S W):=by
 obtain ⟨e1,e2,e3⟩:=hb_ci p2
 have k0:=HB.conj p1.2.1
 have k1:=HB.mul p1.1 k0 9600000
 have k2:=HB.scale k1 e1 10000000
 have k3:=HB.mul e2 p1.1 5600000
 have k4:=HB.conj p1.2.2.2
 have k5:=HB.mul k3 k4 16000000
 have k6:=HB.add k2 k5 26000000
 have k7:=HB.mul e2 p1.2.1 5600000
 have k8:=HB.conj k7
 have k9:=HB.mul k8 p1.2.2.1 16000000
 have k10:=HB.add k6 k9 42000000
 have k11:=HB.mul p1.2.2.1 k4 9600000
 have k12:=HB.scale k11 e3 10000000
 have k13:=HB.add k10 k12 52000000
 have k14:=HB.conj k13
 have k15:=at_hb e1 e2 e3 p1.1 p1.2.2.1 52000000
 have k16:=at_hb e1 e2 e3 p1.2.1 p1.2.2.2 52000000
 refine Run.goP (S:=S) ((Pack.nil.s spMat t0).s spRing t1) Tryz.func159 rfl ?_
 refine Run.cR spMat (fun _ _ _ H=>mtUndo m (MatP.mk (H.f 0) (H.f 1) (H.f 2) (H.f 3) (H.f 4) (H.f 5) (H.f 6) (H.f 7)) p0 p3) ?_
 refine Run.dr ?_
 refine RunD.en ?_
 refine Run.dr ?_
 refine RunD.cR spNum (fun _ _ _ H=>eConj m.undo.b (NumP.mk (H.f 14) (H.f 15)) (Nat.le_trans (Nat.add_le_add p1.2.1.1 p1.2.1.2) (by decide))) ?_
 refine RunD.cR spNum (fun _ _ _ H=>eNMul m.undo.a m.undo.b.conj (NumP.mk (H.f 12) (H.f 13)) (NumP.mk (H.f 20) (H.f 21)) (Nat.le_trans (Nat.add_le_add (Nat.add_le_add (Nat.add_le_add p1.1.1 p1.1.2) k0.1) k0.2) (by decide))) ?_
 refine RunD.cR spNum (fun _ _ _ H=>eScale (m.undo.a.mul m.undo.b.conj) c.a (NumP.mk (H.f 22) (H.f 23)) (RatP.n (H.f 8)) (Nat.le_trans (Nat.add_le_add (Nat.add_le_add k1.1 k1.2) e1) (by decide))) ?_
 refine RunD.cR spNum (fun _ _ _ H=>eNMul c.b m.undo.a (NumP.mk (H.f 9) (H.f 10)) (NumP.mk (H.f 12) (H.f 13)) (Nat.le_trans (Nat.add_le_add (Nat.add_le_add (Nat.add_le_add e2.1 e2.2) p1.1.1) p1.1.2) (by decide))) ?_
 refine RunD.cR spNum (fun _ _ _ H=>eConj m.undo.d (NumP.mk (H.f 18) (H.f 19)) (Nat.le_trans (Nat.add_le_add p1.2.2.2.1 p1.2.2.2.2) (by decide))) ?_
 refine RunD.cR spNum (fun _ _ _ H=>eNMul (c.b.mul m.undo.a) m.undo.d.conj (NumP.mk (H.f 26) (H.f 27)) (NumP.mk (H.f 28) (H.f 29)) (Nat.le_trans (Nat.add_le_add (Nat.add_le_add (Nat.add_le_add k3.1 k3.2) k4.1) k4.2) (by decide))) ?_
 refine RunD.cR spNum (fun _ _ _ H=>eAdd ((m.undo.a.mul m.undo.b.conj).scale c.a) ((c.b.mul m.undo.a).mul m.undo.d.conj) (NumP.mk (H.f 24) (H.f 25)) (NumP.mk (H.f 30) (H.f 31)) (Nat.le_trans (Nat.add_le_add (Nat.add_le_add (Nat.add_le_add k2.1 k2.2) k5.1) k5.2) (by decide))) ?_
 refine RunD.cR spNum (fun _ _ _ H=>eNMul c.b m.undo.b (NumP.mk (H.f 9) (H.f 10)) (NumP.mk (H.f 14) (H.f 15)) (Nat.le_trans (Nat.add_le_add (Nat.add_le_add (Nat.add_le_add e2.1 e2.2) p1.2.1.1) p1.2.1.2) (by decide))) ?_
 refine RunD.cR spNum (fun _ _ _ H=>eConj (c.b.mul m.undo.b) (NumP.mk (H.f 34) (H.f 35)) (Nat.le_trans (Nat.add_le_add k7.1 k7.2) (by decide))) ?_
 refine RunD.cR spNum (fun _ _ _ H=>eNMul ((c.b.mul m.undo.b).conj) m.undo.c (NumP.mk (H.f 36) (H.f 37)) (NumP.mk (H.f 16) (H.f 17)) (Nat.le_trans (Nat.add_le_add (Nat.add_le_add (Nat.add_le_add k8.1 k8.2) p1.2.2.1.1) p1.2.2.1.2) (by decide))) ?_
 refine RunD.cR spNum (fun _ _ _ H=>eAdd (((m.undo.a.mul m.undo.b.conj).scale c.a).add ((c.b.mul m.undo.a).mul m.undo.d.conj)) (((c.b.mul m.undo.b).conj).mul m.undo.c) (NumP.mk (H.f 32) (H.f 33)) (NumP.mk (H.f 38) (H.f 39)) (Nat.le_trans (Nat.add_le_add (Nat.add_le_add (Nat.add_le_add k6.1 k6.2) k9.1) k9.2) (by decide))) ?_
 refine RunD.cR spNum (fun _ _ _ H=>eConj m.undo.d (NumP.mk (H.f 18) (H.f 19)) (Nat.le_trans (Nat.add_le_add p1.2.2.2.1 p1.2.2.2.2) (by decide))) ?_
 refine RunD.cR spNum (fun _ _ _ H=>eNMul m.undo.c m.undo.d.conj (NumP.mk (H.f 16) (H.f 17)) (NumP.mk (H.f 42) (H.f 43)) (Nat.le_trans (Nat.add_le_add (Nat.add_le_add (Nat.add_le_add p1.2.2.1.1 p1.2.2.1.2) k4.1) k4.2) (by decide))) ?_
 refine RunD.cR spNum (fun _ _ _ H=>eScale (m.undo.c.mul m.undo.d.conj) c.c (NumP.mk (H.f 44) (H.f 45)) (RatP.n (H.f 11)) (Nat.le_trans (Nat.add_le_add (Nat.add_le_add k11.1 k11.2) e3) (by decide))) ?_
 refine RunD.cR spNum (fun _ _ _ H=>eAdd ((((m.undo.a.mul m.undo.b.conj).scale c.a).add ((c.b.mul m.undo.a).mul m.undo.d.conj)).add (((c.b.mul m.undo.b).conj).mul m.undo.c)) ((m.undo.c.mul m.undo.d.conj).scale c.c) (NumP.mk (H.f 40) (H.f 41)) (NumP.mk (H.f 46) (H.f 47)) (Nat.le_trans (Nat.add_le_add (Nat.add_le_add (Nat.add_le_add k10.1 k10.2) k12.1) k12.2) (by decide))) ?_
 refine RunD.en ?_
 refine (Bool.eq_false_or_eq_true (m.t)).elim (fun c1=>?_) (fun c1=>?_)
 · refine Run.kn c1 ?_
   refine Run.cR spNum (fun _ _ _ H=>eConj (((((m.undo.a.mul m.undo.b.conj).scale c.a).add ((c.b.mul m.undo.a).mul m.undo.d.conj)).add (((c.b.mul m.undo.b).conj).mul m.undo.c)).add ((m.undo.c.mul m.undo.d.conj).scale c.c)) (NumP.mk (H.f 48) (H.f 49)) (Nat.le_trans (Nat.add_le_add k13.1 k13.2) (by decide))) ?_
   refine Run.dr ?_
   refine RunD.cR spRat (fun _ _ _ H=>mtAt m.undo.a m.undo.c c (NumP.mk (H.f 12) (H.f 13)) (NumP.mk (H.f 16) (H.f 17)) (H.b 1) (RingP.mk (H.f 8) (H.f 9) (H.f 10) (H.f 11)) (Nat.le_trans (Nat.add_le_add (Nat.add_le_add (Nat.add_le_add p1.1.1 p1.1.2) p1.2.2.1.1) p1.2.2.1.2) (by decide)) p2) ?_
   refine RunD.cR spRat (fun _ _ _ H=>mtAt m.undo.b m.undo.d c (NumP.mk (H.f 14) (H.f 15)) (NumP.mk (H.f 18) (H.f 19)) (H.b 1) (RingP.mk (H.f 8) (H.f 9) (H.f 10) (H.f 11)) (Nat.le_trans (Nat.add_le_add (Nat.add_le_add (Nat.add_le_add p1.2.1.1 p1.2.1.2) p1.2.2.2.1) p1.2.2.2.2) (by decide)) p2) ?_
   refine RunD.cR spRing (fun _ _ _ H=>rgNorm (Ci.mk (c.at m.undo.a m.undo.c) ((((((m.undo.a.mul m.undo.b.conj).scale c.a).add ((c.b.mul m.undo.a).mul m.undo.d.conj)).add (((c.b.mul m.undo.b).conj).mul m.undo.c)).add ((m.undo.c.mul m.undo.d.conj).scale c.c)).conj) (c.at m.undo.b m.undo.d)) (RingP.mk (H.f 52) (H.f 50) (H.f 51) (H.f 53)) (Nat.le_trans (Nat.add_le_add (Nat.add_le_add (Nat.add_le_add k15 k14.1) k14.2) k16) (by decide)) (by first | exact imgF_1' p3 p4 c1 | exact imgF_0' p3 p4 c1)) ?_
   refine RunD.en ?_
   exact Run.rR (fun _ _ _ H=>VPe (φ:=RingP) (imgE_1 c1) (RingP.mk (H.f 54) (H.f 55) (H.f 56) (H.f 57)))
 · refine Run.kn c1 ?_
   refine Run.dr ?_
   refine RunD.cR spRat (fun _ _ _ H=>mtAt m.undo.a m.undo.c c (NumP.mk (H.f 12) (H.f 13)) (NumP.mk (H.f 16) (H.f 17)) (H.b 1) (RingP.mk (H.f 8) (H.f 9) (H.f 10) (H.f 11)) (Nat.le_trans (Nat.add_le_add (Nat.add_le_add (Nat.add_le_add p1.1.1 p1.1.2) p1.2.2.1.1) p1.2.2.1.2) (by decide)) p2) ?_
   refine RunD.cR spRat (fun _ _ _ H=>mtAt m.undo.b m.undo.d c (NumP.mk (H.f 14) (H.f 15)) (NumP.mk (H.f 18) (H.f 19)) (H.b 1) (RingP.mk (H.f 8) (H.f 9) (H.f 10) (H.f 11)) (Nat.le_trans (Nat.add_le_add (Nat.add_le_add (Nat.add_le_add p1.2.1.1 p1.2.1.2) p1.2.2.2.1) p1.2.2.2.2) (by decide)) p2) ?_
   refine RunD.cR spRing (fun _ _ _ H=>rgNorm (Ci.mk (c.at m.undo.a m.undo.c) (((((m.undo.a.mul m.undo.b.conj).scale c.a).add ((c.b.mul m.undo.a).mul m.undo.d.conj)).add (((c.b.mul m.undo.b).conj).mul m.undo.c)).add ((m.undo.c.mul m.undo.d.conj).scale c.c)) (c.at m.undo.b m.undo.d)) (RingP.mk (H.f 50) (H.f 48) (H.f 49) (H.f 51)) (Nat.le_trans (Nat.add_le_add (Nat.add_le_add (Nat.add_le_add k15 k13.1) k13.2) k16) (by decide)) (by first | exact imgF_1' p3 p4 c1 | exact imgF_0' p3 p4 c1)) ?_
   refine RunD.en ?_
   exact Run.rR (fun _ _ _ H=>VPe (φ:=RingP) (imgE_0 c1) (RingP.mk (H.f 52) (H.f 53) (H.f 54) (H.f 55)))
end Go.Proofs.YtcpjdjnaipbieaaGreat
namespace Go.Proofs.YtcpjdjnaipbieaaGreat
open Go.RowKit Rgn Eng
variable {S:Nat → Prop} {W:World}
theorem m8At (m:Mb) (P:Pn) (p0:ht m.a.re + ht m.a.im + ht m.b.re + ht m.b.im + ht m.c.re + ht m.c.im + ht m.d.re + ht m.d.im ≤ 67000000) (p1:PnF P):Calls Tryz.prog 40 #[mbV m,rpnV (pnR P)] W (RetV (rpnV (pnR (m.send P))) W):=by
 cases e:P.inf with
 | true=>rw [pnR_I p1 e]; exact m8AtI m (Nat.le_trans p0 (by decide))
 | false =>
  have h:=p1.ht
  obtain ⟨i,z⟩:=P
  cases e
  exact m8AtZ z m (by dsimp only at h; omega)
theorem l14isPt (k:Pn):Calls Tryz.prog 39 #[rpnV (pncut k),.int .i64 (pnerr k),rpnV (pnR k)] W (RetV (.bool true) W):=by
 obtain ⟨i,z⟩:=k
 cases i with
 | true=>exact l14isP true rz _ _ (.inl ⟨rfl,rfl,rfl⟩)
 | false =>
  refine l14isP false (rg z) _ _ ?_
  cases h:gfits (rg z) with
  | true=>exact .inl ⟨rfl,by unfold pncut pnfits; rw [h]; rfl,by unfold pnerr pnfits; rw [h]; rfl⟩
  | false=>exact .inr ⟨rfl,by unfold pncut pnfits; rw [h]; rfl,by unfold pnerr pnfits; rw [h]; rfl⟩
theorem l14isCt (k:Ci):Calls Tryz.prog 29 #[rciV (cicut k),.int .i64 (cierr k),ciV k] W (RetV (.bool true) W):=by
 have h:=l14isC (W:=W) (cicut k) (cierr k) (rci k)
 rw [isC_ok k] at h
 exact h
theorem eSpotP (P:Pn) (p1:PnF P):Calls Tryz.prog 156 #[rpnV (pnR P)] W (Ret (VP.tup (PlaceP P) (VP.is (.bool true))) S W):=by
 cases e:P.inf with
 | true=>have:=pnR_I p1 e; subst this; exact eSpotI
 | false =>
  have h:=p1.f
  obtain ⟨i,z⟩:=P
  cases e
  exact eSpotZ z h
theorem eWheelJ (r:RCi):Calls Tryz.prog 155 #[rciV r] W (Ret (VP.tup (RingJ 0) (VP.is (.bool (ciOk r)))) S W):=by
 cases h:ciOk r with
 | false=>exact eWheelN (S:=S) r h
 | true =>
  obtain ⟨c,rfl,_⟩:=ciOk_ex h
  refine (eWheelO (S:=S) (W:=W) c h).mono fun e w' hr=>?_
  obtain ⟨v,e1,⟨x,y,e2,h1,h2⟩,e3⟩:=hr
  exact ⟨v,e1,⟨x,y,e2,RingP.j h1,h2⟩,e3⟩
end Go.Proofs.YtcpjdjnaipbieaaGreat
namespace Go.Proofs.YtcpjdjnaipbieaaGreat
open Go.RowKit Rgn Eng
set_option maxHeartbeats 8000000
set_option maxRecDepth 100000
variable {S:Nat → Prop} {W:World}
theorem ivPt (c:Ci) (P:Pn) (p0:ciOk (rci c) = true) (p1:PnF P):Calls Tryz.prog 32 #[ciV c,rpnV (pnR P)] W (RetV (.tuple #[rpnV (pncut (c.over.nrm.send P)),.int .i64 (pnerr (c.over.nrm.send P))]) W):=by
 have f1:=cifits_ht (ciOk_c p0).1
 have f2:=over_l2 f1
 have f3:=p1.ht
 have f4:=send_le f2 (Nat.le_trans f3 (by decide))
 refine Run.goP (S:=Z0) ((Pack.nil.k (ciV c) (ciC c).toList (.s (.agg (ks 0 16)))).k (rpnV (pnR P)) (rpnC (pnR P)).toList (.s (.agg (ks 0 9)))) Tryz.func32 rfl ?_
 refine Run.cR (spRingC true) (fun _ _ _ H=>eWheelO c p0) ?_
 refine Run.cR (spPlaceC true) (fun _ _ _ H=>eSpotP P p1) ?_
 refine Run.dr ?_
 refine RunD.cR spMat (fun _ _ _ H=>iOver c (RingP.mk (H.f 0) (H.f 1) (H.f 2) (H.f 3)) (by first | assumption | omega)) ?_
 refine RunD.cR spPlace (fun _ _ _ H=>mtSend c.over P (MatP.mk (H.f 6) (H.f 7) (H.f 8) (H.f 9) (H.f 10) (H.f 11) (H.f 12) (H.f 13)) (PlaceP.mk (H.f 4) (H.f 5)) (by first | assumption | omega)) ?_
 refine RunD.cV ((rpnC (pncut (c.over.send P))).toList ++ [.int .i64 (pnerr (c.over.send P))]) (.tup [.agg (ks 0 9),.o (.k 9)]) (fun _ _ _ H=>plTold (c.over.send P) (PlaceP.mk (H.f 14) (H.f 15)) (by first | assumption | omega)) ?_
 refine RunD.en ?_
 exact Run.rV (ptT p0)
theorem ivPtN (c:RCi) (p:RPn) (p0:ciOk c = false):Calls Tryz.prog 32 #[rciV c,rpnV p] W (RetV (.tuple #[rpnV rzPn,.int .i64 2]) W):=by
 refine Run.goP (S:=Z0) ((Pack.nil.k (rciV c) (rciC c).toList (.s (.agg (ks 0 16)))).k (rpnV p) (rpnC p).toList (.s (.agg (ks 0 9)))) Tryz.func32 rfl ?_
 refine Run.cR (spRingJC false) (fun _ _ _ H=>eWheelN c p0) ?_
 refine Run.cR spPlaceJK (fun _ _ _ H=>eSpotJ p) ?_
 exact Run.rV rfl
theorem ivPtM (c:Ci) (p:RPn) (p0:ciOk (rci c) = true) (p1:pnOk p = false):Calls Tryz.prog 32 #[ciV c,rpnV p] W (RetV (.tuple #[rpnV rzPn,.int .i64 2]) W):=by
 refine Run.goP (S:=Z0) ((Pack.nil.k (ciV c) (ciC c).toList (.s (.agg (ks 0 16)))).k (rpnV p) (rpnC p).toList (.s (.agg (ks 0 9)))) Tryz.func32 rfl ?_
 refine Run.cR (spRingC true) (fun _ _ _ H=>eWheelO c p0) ?_
 refine Run.cR spPlaceJK (fun _ _ _ H=>eSpotJ p) ?_
 refine Run.kn p1 ?_
 exact Run.rV rfl
theorem ivRtN (c:RCi) (d:RCi) (p0:ciOk c = false):Calls Tryz.prog 34 #[rciV c,rciV d] W (RetV (.tuple #[.bool false,.int .i64 2]) W):=by
 refine Run.goP (S:=Z0) ((Pack.nil.k (rciV c) (rciC c).toList (.s (.agg (ks 0 16)))).k (rciV d) (rciC d).toList (.s (.agg (ks 0 16)))) Tryz.func34 rfl ?_
 refine Run.cV [] (.tup [.o (.c (.slice none 0 0)),.o (.c (.int .i64 2))]) (fun _ _ _ H=>ivWhA c d (H.b 2) p0) ?_
 exact Run.rV rfl
theorem ivRtM (c:Ci) (d:RCi) (p0:ciOk (rci c) = true) (p1:ciOk d = false):Calls Tryz.prog 34 #[ciV c,rciV d] W (RetV (.tuple #[.bool false,.int .i64 2]) W):=by
 refine Run.goP (S:=Z0) ((Pack.nil.k (ciV c) (ciC c).toList (.s (.agg (ks 0 16)))).k (rciV d) (rciC d).toList (.s (.agg (ks 0 16)))) Tryz.func34 rfl ?_
 refine Run.cV [] (.tup [.o (.c (.slice none 0 0)),.o (.c (.int .i64 2))]) (fun _ _ _ H=>ivWhB c d (H.b 2) p0 p1) ?_
 exact Run.rV rfl
theorem ivCiN (c:RCi) (d:RCi) (p0:ciOk c = false):Calls Tryz.prog 33 #[rciV c,rciV d] W (RetV (.tuple #[rciV rzCi,.int .i64 2]) W):=by
 refine Run.goP (S:=Z0) ((Pack.nil.k (rciV c) (rciC c).toList (.s (.agg (ks 0 16)))).k (rciV d) (rciC d).toList (.s (.agg (ks 0 16)))) Tryz.func33 rfl ?_
 refine Run.cR (spRingJC false) (fun _ _ _ H=>eWheelN c p0) ?_
 refine Run.cR spRingJK (fun _ _ _ H=>eWheelJ d) ?_
 exact Run.rV rfl
theorem ivCiM (c:Ci) (d:RCi) (p0:ciOk (rci c) = true) (p1:ciOk d = false):Calls Tryz.prog 33 #[ciV c,rciV d] W (RetV (.tuple #[rciV rzCi,.int .i64 2]) W):=by
 refine Run.goP (S:=Z0) ((Pack.nil.k (ciV c) (ciC c).toList (.s (.agg (ks 0 16)))).k (rciV d) (rciC d).toList (.s (.agg (ks 0 16)))) Tryz.func33 rfl ?_
 refine Run.cR (spRingC true) (fun _ _ _ H=>eWheelO c p0) ?_
 refine Run.cR (spRingJC false) (fun _ _ _ H=>eWheelN d p1) ?_
 exact Run.rV rfl
theorem ivCi (c:Ci) (d:Ci) (p0:ciOk (rci c) = true) (p1:ciOk (rci d) = true):Calls Tryz.prog 33 #[ciV c,ciV d] W (RetV (.tuple #[rciV (cicut (c.over.nrm.img d).nrm),.int .i64 (cierr (c.over.nrm.img d).nrm)]) W):=by
 have f1:=cifits_ht (ciOk_c p0).1
 have f2:=cifits_ht (ciOk_c p1).1
 have o1:=over_l2 f1
 have g1:=over_dt p0
 have g2:=(ciOk_c p1).2.1
 have g3:=img_pos g1 g2
 have g5:=undo_le o1
 have g4:=img_le g5 f2
 refine Run.goP (S:=Z0) ((Pack.nil.k (ciV c) (ciC c).toList (.s (.agg (ks 0 16)))).k (ciV d) (ciC d).toList (.s (.agg (ks 0 16)))) Tryz.func33 rfl ?_
 refine Run.cR (spRingC true) (fun _ _ _ H=>eWheelO c p0) ?_
 refine Run.cR (spRingC true) (fun _ _ _ H=>eWheelO d p1) ?_
 refine Run.dr ?_
 refine RunD.cR spMat (fun _ _ _ H=>iOver c (RingP.mk (H.f 0) (H.f 1) (H.f 2) (H.f 3)) (by first | omega | (dsimp only at *; omega))) ?_
 refine RunD.cR spRing (fun _ _ _ H=>mtImg c.over d (MatP.mk (H.f 8) (H.f 9) (H.f 10) (H.f 11) (H.f 12) (H.f 13) (H.f 14) (H.f 15)) (RingP.mk (H.f 4) (H.f 5) (H.f 6) (H.f 7)) (by first | omega | (dsimp only at *; omega)) (by exact undo_up g5) (by first | omega | (dsimp only at *; omega)) (by exact g1) (by exact g2)) ?_
 refine RunD.cV ((rciC (cicut ((c.over.img d).nrm).nrm)).toList ++ [.int .i64 (cierr ((c.over.img d).nrm).nrm)]) (.tup [.agg (ks 0 16),.o (.k 16)]) (fun _ _ _ H=>rgTold ((c.over.img d).nrm) (RingP.mk (H.f 16) (H.f 17) (H.f 18) (H.f 19)) (by first | omega | (dsimp only at *; omega)) (by exact pos_flat (pos_nrm g3))) ?_
 refine RunD.en ?_
 exact Run.rV (imgT p0 p1)
theorem lOv0 (c:RCi) (d:RCi) (p:RPn) (p0:(lgC c || lgC d) = true):Calls Tryz.prog 5 #[rciV c,rciV d,rpnV p] W (RetV (.bool true) W):=by
 refine Run.goP (S:=Z0) (((Pack.nil.k (rciV c) (rciC c).toList (.s (.agg (ks 0 16)))).k (rciV d) (rciC d).toList (.s (.agg (ks 0 16)))).k (rpnV p) (rpnC p).toList (.s (.agg (ks 0 9)))) Tryz.func5 rfl ?_
 refine Run.cV [.bool (lgC c || lgC d)] kb (fun _ _ _ H=>l14wide c d (H.b 3)) ?_
 refine Run.kn p0 ?_
 refine Run.cV [] (cb true) (fun _ _ _ H=>l14works) ?_
 exact Run.rV rfl
theorem lOv1 (c:RCi) (d:RCi) (p:RPn) (p0:(lgC c || lgC d) = false) (p1:lgG p.z = true):Calls Tryz.prog 5 #[rciV c,rciV d,rpnV p] W (RetV (.bool true) W):=by
 refine Run.goP (S:=Z0) (((Pack.nil.k (rciV c) (rciC c).toList (.s (.agg (ks 0 16)))).k (rciV d) (rciC d).toList (.s (.agg (ks 0 16)))).k (rpnV p) (rpnC p).toList (.s (.agg (ks 0 9)))) Tryz.func5 rfl ?_
 refine Run.cV [.bool (lgC c || lgC d)] kb (fun _ _ _ H=>l14wide c d (H.b 3)) ?_
 refine Run.kn p0 ?_
 refine Run.cV [.bool (lgG p.z)] kb (fun _ _ _ H=>l14long1 p.z (H.b 4)) ?_
 refine Run.kn p1 ?_
 refine Run.cV [] (cb true) (fun _ _ _ H=>l14works) ?_
 exact Run.rV rfl
theorem lOv2 (c:RCi) (d:RCi) (p:RPn) (p0:(lgC c || lgC d) = false) (p1:lgG p.z = false) (p2:ciOk c = false):Calls Tryz.prog 5 #[rciV c,rciV d,rpnV p] W (RetV (.bool true) W):=by
 refine Run.goP (S:=Z0) (((Pack.nil.k (rciV c) (rciC c).toList (.s (.agg (ks 0 16)))).k (rciV d) (rciC d).toList (.s (.agg (ks 0 16)))).k (rpnV p) (rpnC p).toList (.s (.agg (ks 0 9)))) Tryz.func5 rfl ?_
 refine Run.cV [.bool (lgC c || lgC d)] kb (fun _ _ _ H=>l14wide c d (H.b 3)) ?_
 refine Run.kn p0 ?_
 refine Run.cV [.bool (lgG p.z)] kb (fun _ _ _ H=>l14long1 p.z (H.b 4)) ?_
 refine Run.kn p1 ?_
 refine Run.cV (rmbC rzMb).toList (.tup [.agg (ks 0 33),.o (.c (.int .i64 2))]) (fun _ _ _ H=>ivOvN c p2) ?_
 refine Run.cV (rpnC rzPn).toList (.tup [.agg (ks 0 9),.o (.c (.int .i64 2))]) (fun _ _ _ H=>ivPtN c p p2) ?_
 refine Run.cV (rciC rzCi).toList (.tup [.agg (ks 0 16),.o (.c (.int .i64 2))]) (fun _ _ _ H=>ivCiN c d p2) ?_
 refine Run.cV [] (.tup [.o (.c (.bool false)),.o (.c (.int .i64 2))]) (fun _ _ _ H=>ivRtN c d p2) ?_
 refine Run.cV [] (cb false) (fun _ _ _ H=>l14MayN c p2) ?_
 refine Run.bi [] (cb true) (fun _ _ _ o1 o2 _ ho hx hy=>ex_eql_mb (r:=rzMb) (q:=rzMb) o1 o2 ho hx hy (decide_eq_true rfl)) ?_
 refine Run.cV [] (.s (.o (.c (.int .i64 2)))) (fun _ _ _ H=>l14Num 2) ?_
 refine Run.bi [] (cb true) (fun _ _ _ o1 o2 _ ho hx hy=>ex_eql_pn (r:=rzPn) (q:=rzPn) o1 o2 ho hx hy (decide_eq_true rfl)) ?_
 refine Run.cV [] (.s (.o (.c (.int .i64 2)))) (fun _ _ _ H=>l14Num 2) ?_
 refine Run.bi [] (cb true) (fun _ _ _ o1 o2 _ ho hx hy=>ex_eql_ci (r:=rzCi) (q:=rzCi) o1 o2 ho hx hy (decide_eq_true rfl)) ?_
 refine Run.cV [] (.s (.o (.c (.int .i64 2)))) (fun _ _ _ H=>l14Num 2) ?_
 refine Run.cV [] (.s (.o (.c (.int .i64 2)))) (fun _ _ _ H=>l14Num 2) ?_
 refine Run.cV [] (cb true) (fun _ _ _ H=>l14works) ?_
 exact Run.rV rfl
theorem lOv3 (c:Ci) (d:RCi) (p:RPn) (p0:(lgC (rci c) || lgC d) = false) (p1:lgG p.z = false) (p2:ciOk (rci c) = true) (p3:ciOk d = false) (p4:pnOk p = false):Calls Tryz.prog 5 #[ciV c,rciV d,rpnV p] W (RetV (.bool true) W):=by
 have f1:=cifits_ht (ciOk_c p2).1
 refine Run.goP (S:=Z0) (((Pack.nil.k (ciV c) (ciC c).toList (.s (.agg (ks 0 16)))).k (rciV d) (rciC d).toList (.s (.agg (ks 0 16)))).k (rpnV p) (rpnC p).toList (.s (.agg (ks 0 9)))) Tryz.func5 rfl ?_
 refine Run.cV [.bool (lgC (rci c) || lgC d)] kb (fun _ _ _ H=>l14wide (rci c) d (H.b 3)) ?_
 refine Run.kn p0 ?_
 refine Run.cV [.bool (lgG p.z)] kb (fun _ _ _ H=>l14long1 p.z (H.b 4)) ?_
 refine Run.kn p1 ?_
 refine Run.cV ((rmbC (mbcut c.over.nrm)).toList ++ [.int .i64 (mberr c.over.nrm)]) (.tup [.agg (ks 0 33),.o (.k 33)]) (fun _ _ _ H=>ivOvO c p2) ?_
 refine Run.cV (rpnC rzPn).toList (.tup [.agg (ks 0 9),.o (.c (.int .i64 2))]) (fun _ _ _ H=>ivPtM c p p2 p4) ?_
 refine Run.cV (rciC rzCi).toList (.tup [.agg (ks 0 16),.o (.c (.int .i64 2))]) (fun _ _ _ H=>ivCiM c d p2 p3) ?_
 refine Run.cV [] (.tup [.o (.c (.bool false)),.o (.c (.int .i64 2))]) (fun _ _ _ H=>ivRtM c d p2 p3) ?_
 refine Run.cV [] (cb true) (fun _ _ _ H=>l14MayO c p2) ?_
 refine Run.cV (mbC c.over.nrm).toList (.s (.agg (ks 0 33))) (fun _ _ _ H=>r14Over c (by first | assumption | omega) (by exact over_piv (ciOk_c p2).2.1)) ?_
 refine Run.cV [] (cb true) (fun _ _ _ H=>l14isM c.over.nrm) ?_
 refine Run.cV [.bool (pnOk p)] kb (fun _ _ _ H=>p11May p) ?_
 refine Run.kn p4 ?_
 refine Run.bi [] (cb false) (fun _ _ _ o1 o2 _ ho hx hy=>ex_neq_pn (r:=rzPn) (q:=rzPn) o1 o2 ho hx hy (decide_eq_true rfl)) ?_
 refine Run.cV [] (.s (.o (.c (.int .i64 2)))) (fun _ _ _ H=>l14Num 2) ?_
 refine Run.cV [] (cb false) (fun _ _ _ H=>l14MayN d p3) ?_
 refine Run.bi [] (cb true) (fun _ _ _ o1 o2 _ ho hx hy=>ex_eql_ci (r:=rzCi) (q:=rzCi) o1 o2 ho hx hy (decide_eq_true rfl)) ?_
 refine Run.cV [] (.s (.o (.c (.int .i64 2)))) (fun _ _ _ H=>l14Num 2) ?_
 refine Run.cV [] (.s (.o (.c (.int .i64 2)))) (fun _ _ _ H=>l14Num 2) ?_
 refine Run.cV [] (cb true) (fun _ _ _ H=>l14works) ?_
 exact Run.rV rfl
theorem lOv4 (P:Pn) (c:Ci) (d:RCi) (p0:(lgC (rci c) || lgC d) = false) (p1:lgG (pnR P).z = false) (p2:ciOk (rci c) = true) (p3:ciOk d = false) (p4:PnF P):Calls Tryz.prog 5 #[ciV c,rciV d,rpnV (pnR P)] W (RetV (.bool true) W):=by
 have f1:=cifits_ht (ciOk_c p2).1
 have f3:=over_nl f1
 refine Run.goP (S:=Z0) (((Pack.nil.k (ciV c) (ciC c).toList (.s (.agg (ks 0 16)))).k (rciV d) (rciC d).toList (.s (.agg (ks 0 16)))).k (rpnV (pnR P)) (rpnC (pnR P)).toList (.s (.agg (ks 0 9)))) Tryz.func5 rfl ?_
 refine Run.cV [.bool (lgC (rci c) || lgC d)] kb (fun _ _ _ H=>l14wide (rci c) d (H.b 3)) ?_
 refine Run.kn p0 ?_
 refine Run.cV [.bool (lgG ((pnR P).z))] kb (fun _ _ _ H=>l14long1 ((pnR P).z) (H.b 4)) ?_
 refine Run.kn p1 ?_
 refine Run.cV ((rmbC (mbcut c.over.nrm)).toList ++ [.int .i64 (mberr c.over.nrm)]) (.tup [.agg (ks 0 33),.o (.k 33)]) (fun _ _ _ H=>ivOvO c p2) ?_
 refine Run.cV ((rpnC (pncut (c.over.nrm.send P))).toList ++ [.int .i64 (pnerr (c.over.nrm.send P))]) (.tup [.agg (ks 0 9),.o (.k 9)]) (fun _ _ _ H=>ivPt c P p2 p4) ?_
 refine Run.cV (rciC rzCi).toList (.tup [.agg (ks 0 16),.o (.c (.int .i64 2))]) (fun _ _ _ H=>ivCiM c d p2 p3) ?_
 refine Run.cV [] (.tup [.o (.c (.bool false)),.o (.c (.int .i64 2))]) (fun _ _ _ H=>ivRtM c d p2 p3) ?_
 refine Run.cV [] (cb true) (fun _ _ _ H=>l14MayO c p2) ?_
 refine Run.cV (mbC c.over.nrm).toList (.s (.agg (ks 0 33))) (fun _ _ _ H=>r14Over c (by first | assumption | omega) (by exact over_piv (ciOk_c p2).2.1)) ?_
 refine Run.cV [] (cb true) (fun _ _ _ H=>l14isM c.over.nrm) ?_
 refine Run.cV [.bool (pnOk (pnR P))] kb (fun _ _ _ H=>p11May (pnR P)) ?_
 refine Run.kn (pnOk_pnR p4) ?_
 refine Run.dr ?_
 refine RunD.cV (rpnC (pnR (c.over.nrm.send P))).toList (.s (.agg (ks 0 9))) (fun _ _ _ H=>m8At c.over.nrm P (by first | assumption | omega) p4) ?_
 refine RunD.cV [] (cb true) (fun _ _ _ H=>l14isPt (c.over.nrm.send P)) ?_
 refine RunD.en ?_
 refine Run.cV [] (cb false) (fun _ _ _ H=>l14MayN d p3) ?_
 refine Run.bi [] (cb true) (fun _ _ _ o1 o2 _ ho hx hy=>ex_eql_ci (r:=rzCi) (q:=rzCi) o1 o2 ho hx hy (decide_eq_true rfl)) ?_
 refine Run.cV [] (.s (.o (.c (.int .i64 2)))) (fun _ _ _ H=>l14Num 2) ?_
 refine Run.cV [] (.s (.o (.c (.int .i64 2)))) (fun _ _ _ H=>l14Num 2) ?_
 refine Run.cV [] (cb true) (fun _ _ _ H=>l14works) ?_
 exact Run.rV rfl
theorem lOv5 (c:Ci) (d:Ci) (p:RPn) (p0:(lgC (rci c) || lgC (rci d)) = false) (p1:lgG p.z = false) (p2:ciOk (rci c) = true) (p3:ciOk (rci d) = true) (p4:pnOk p = false):Calls Tryz.prog 5 #[ciV c,ciV d,rpnV p] W (RetV (.bool true) W):=by
 have f1:=cifits_ht (ciOk_c p2).1
 have f2:=cifits_ht (ciOk_c p3).1
 have f3:=over_nl f1
 refine Run.goP (S:=Z0) (((Pack.nil.k (ciV c) (ciC c).toList (.s (.agg (ks 0 16)))).k (ciV d) (ciC d).toList (.s (.agg (ks 0 16)))).k (rpnV p) (rpnC p).toList (.s (.agg (ks 0 9)))) Tryz.func5 rfl ?_
 refine Run.cV [.bool (lgC (rci c) || lgC (rci d))] kb (fun _ _ _ H=>l14wide (rci c) (rci d) (H.b 3)) ?_
 refine Run.kn p0 ?_
 refine Run.cV [.bool (lgG p.z)] kb (fun _ _ _ H=>l14long1 p.z (H.b 4)) ?_
 refine Run.kn p1 ?_
 refine Run.cV ((rmbC (mbcut c.over.nrm)).toList ++ [.int .i64 (mberr c.over.nrm)]) (.tup [.agg (ks 0 33),.o (.k 33)]) (fun _ _ _ H=>ivOvO c p2) ?_
 refine Run.cV (rpnC rzPn).toList (.tup [.agg (ks 0 9),.o (.c (.int .i64 2))]) (fun _ _ _ H=>ivPtM c p p2 p4) ?_
 refine Run.cV ((rciC (cicut (c.over.nrm.img d).nrm)).toList ++ [.int .i64 (cierr (c.over.nrm.img d).nrm)]) (.tup [.agg (ks 0 16),.o (.k 16)]) (fun _ _ _ H=>ivCi c d p2 p3) ?_
 refine Run.cV [.bool ((c.dot d).num.sign == 0)] (.tup [.o (.k 0),.o (.c (.int .i64 0))]) (fun _ _ _ H=>ivRtY c d p2 p3) ?_
 refine Run.cV [] (cb true) (fun _ _ _ H=>l14MayO c p2) ?_
 refine Run.cV (mbC c.over.nrm).toList (.s (.agg (ks 0 33))) (fun _ _ _ H=>r14Over c (by first | assumption | omega) (by exact over_piv (ciOk_c p2).2.1)) ?_
 refine Run.cV [] (cb true) (fun _ _ _ H=>l14isM c.over.nrm) ?_
 refine Run.cV [.bool (pnOk p)] kb (fun _ _ _ H=>p11May p) ?_
 refine Run.kn p4 ?_
 refine Run.bi [] (cb false) (fun _ _ _ o1 o2 _ ho hx hy=>ex_neq_pn (r:=rzPn) (q:=rzPn) o1 o2 ho hx hy (decide_eq_true rfl)) ?_
 refine Run.cV [] (.s (.o (.c (.int .i64 2)))) (fun _ _ _ H=>l14Num 2) ?_
 refine Run.cV [] (cb true) (fun _ _ _ H=>l14MayO d p3) ?_
 refine Run.dr ?_
 refine RunD.cV (ciC ((c.over.nrm.img d).nrm)).toList (.s (.agg (ks 0 16))) (fun _ _ _ H=>c11Img c.over.nrm d (by first | assumption | omega) (by exact over_ub p2) (by first | assumption | omega) (by exact nrm_det (over_dt p2)) (by exact (ciOk_c p3).2.1)) ?_
 refine RunD.cV [] (cb true) (fun _ _ _ H=>l14isCt ((c.over.nrm.img d).nrm)) ?_
 refine RunD.cV [.bool ((c.dot d).num.sign == 0)] kb (fun _ _ _ H=>r14Right c d (by first | assumption | omega)) ?_
 refine RunD.bi [] (cb true) (fun _ _ _ o1 o2 _ ho hx hy=>ex_eql_bool (t:=4) ((c.dot d).num.sign == 0) ((c.dot d).num.sign == 0) Tryz.underlying4 ho hx hy) ?_ (hV:=fun _ _=>congrArg Value.bool (beq_self_eq_true _))
 refine RunD.cV [] (.s (.o (.c (.int .i64 0)))) (fun _ _ _ H=>l14Num 0) ?_
 refine RunD.cV [] (cb true) (fun _ _ _ H=>l14works) ?_
 refine RunD.en ?_
 exact Run.rV rfl
theorem lOv6 (P:Pn) (c:Ci) (d:Ci) (p0:(lgC (rci c) || lgC (rci d)) = false) (p1:lgG (pnR P).z = false) (p2:ciOk (rci c) = true) (p3:ciOk (rci d) = true) (p4:PnF P):Calls Tryz.prog 5 #[ciV c,ciV d,rpnV (pnR P)] W (RetV (.bool true) W):=by
 have f1:=cifits_ht (ciOk_c p2).1
 have f2:=cifits_ht (ciOk_c p3).1
 have f3:=over_nl f1
 refine Run.goP (S:=Z0) (((Pack.nil.k (ciV c) (ciC c).toList (.s (.agg (ks 0 16)))).k (ciV d) (ciC d).toList (.s (.agg (ks 0 16)))).k (rpnV (pnR P)) (rpnC (pnR P)).toList (.s (.agg (ks 0 9)))) Tryz.func5 rfl ?_
 refine Run.cV [.bool (lgC (rci c) || lgC (rci d))] kb (fun _ _ _ H=>l14wide (rci c) (rci d) (H.b 3)) ?_
 refine Run.kn p0 ?_
 refine Run.cV [.bool (lgG ((pnR P).z))] kb (fun _ _ _ H=>l14long1 ((pnR P).z) (H.b 4)) ?_
 refine Run.kn p1 ?_
 refine Run.cV ((rmbC (mbcut c.over.nrm)).toList ++ [.int .i64 (mberr c.over.nrm)]) (.tup [.agg (ks 0 33),.o (.k 33)]) (fun _ _ _ H=>ivOvO c p2) ?_
 refine Run.cV ((rpnC (pncut (c.over.nrm.send P))).toList ++ [.int .i64 (pnerr (c.over.nrm.send P))]) (.tup [.agg (ks 0 9),.o (.k 9)]) (fun _ _ _ H=>ivPt c P p2 p4) ?_
 refine Run.cV ((rciC (cicut (c.over.nrm.img d).nrm)).toList ++ [.int .i64 (cierr (c.over.nrm.img d).nrm)]) (.tup [.agg (ks 0 16),.o (.k 16)]) (fun _ _ _ H=>ivCi c d p2 p3) ?_
 refine Run.cV [.bool ((c.dot d).num.sign == 0)] (.tup [.o (.k 0),.o (.c (.int .i64 0))]) (fun _ _ _ H=>ivRtY c d p2 p3) ?_
 refine Run.cV [] (cb true) (fun _ _ _ H=>l14MayO c p2) ?_
 refine Run.cV (mbC c.over.nrm).toList (.s (.agg (ks 0 33))) (fun _ _ _ H=>r14Over c (by first | assumption | omega) (by exact over_piv (ciOk_c p2).2.1)) ?_
 refine Run.cV [] (cb true) (fun _ _ _ H=>l14isM c.over.nrm) ?_
 refine Run.cV [.bool (pnOk (pnR P))] kb (fun _ _ _ H=>p11May (pnR P)) ?_
 refine Run.kn (pnOk_pnR p4) ?_
 refine Run.dr ?_
 refine RunD.cV (rpnC (pnR (c.over.nrm.send P))).toList (.s (.agg (ks 0 9))) (fun _ _ _ H=>m8At c.over.nrm P (by first | assumption | omega) p4) ?_
 refine RunD.cV [] (cb true) (fun _ _ _ H=>l14isPt (c.over.nrm.send P)) ?_
 refine RunD.en ?_
 refine Run.cV [] (cb true) (fun _ _ _ H=>l14MayO d p3) ?_
 refine Run.dr ?_
 refine RunD.cV (ciC ((c.over.nrm.img d).nrm)).toList (.s (.agg (ks 0 16))) (fun _ _ _ H=>c11Img c.over.nrm d (by first | assumption | omega) (by exact over_ub p2) (by first | assumption | omega) (by exact nrm_det (over_dt p2)) (by exact (ciOk_c p3).2.1)) ?_
 refine RunD.cV [] (cb true) (fun _ _ _ H=>l14isCt ((c.over.nrm.img d).nrm)) ?_
 refine RunD.cV [.bool ((c.dot d).num.sign == 0)] kb (fun _ _ _ H=>r14Right c d (by first | assumption | omega)) ?_
 refine RunD.bi [] (cb true) (fun _ _ _ o1 o2 _ ho hx hy=>ex_eql_bool (t:=4) ((c.dot d).num.sign == 0) ((c.dot d).num.sign == 0) Tryz.underlying4 ho hx hy) ?_ (hV:=fun _ _=>congrArg Value.bool (beq_self_eq_true _))
 refine RunD.cV [] (.s (.o (.c (.int .i64 0)))) (fun _ _ _ H=>l14Num 0) ?_
 refine RunD.cV [] (cb true) (fun _ _ _ H=>l14works) ?_
 refine RunD.en ?_
 exact Run.rV rfl
end Go.Proofs.YtcpjdjnaipbieaaGreat
namespace Go.Proofs.YtcpjdjnaipbieaaGreat
open Go.ChangeShapes Go.WideShapes Go.ChangeAt Go.RowKit
theorem list2 {cs:List Value} (h:cs.length = 2):∃ a b,cs = [a,b]:=by
 match cs,h with
 | [a,b],_=>exact ⟨a,b,rfl⟩
theorem list4 {cs:List Value} (h:cs.length = 4):∃ a b c d,cs = [a,b,c,d]:=by
 match cs,h with
 | [a,b,c,d],_=>exact ⟨a,b,c,d,rfl⟩
theorem list8 {cs:List Value} (h:cs.length = 8):∃ a b c d e f g i,cs = [a,b,c,d,e,f,g,i]:=by
 match cs,h with
 | [a,b,c,d,e,f,g,i],_=>exact ⟨a,b,c,d,e,f,g,i,rfl⟩
section
variable {H:Type} {enc:TypeId × Value → H} {w:World} {base:Nat} {spare:Nat → Bool} {held:Bool}
theorem rd_whole {fuel:Nat} {cs:List Value} {x:DataW H × List MemPlace} (h:DataW.trod enc Tryz.prog w base spare held fuel 23 cs = some x):∃ r:RW,cs = (rwC r).toList:=by
 obtain ⟨y0,y1,n,_,hl,h0,h1⟩:=trod_struct2 Tryz.underlying23 h
 obtain ⟨b,e0,_⟩:=DataW.trod_bool Tryz.underlying4 h0
 obtain ⟨s,e1,_,_⟩:=DataW.trod_string Tryz.underlying9 h1
 rw [show Tryz.prog.cellsOf 23 = 2 by kernel_rfl] at hl
 rw [show Tryz.prog.cellsOf 4 = 1 by kernel_rfl] at e0
 rw [show Tryz.prog.cellsOf 9 = 1 by kernel_rfl] at e1
 obtain ⟨u,v,rfl⟩:=list2 hl
 simp only [List.drop_zero,List.take_succ_cons,List.take_zero,List.cons.injEq,and_true] at e0
 simp only [List.drop_succ_cons,List.drop_zero,List.take_succ_cons,List.take_zero,List.cons.injEq,and_true] at e1
 subst e0; subst e1
 exact ⟨⟨b,s⟩,rfl⟩
theorem rd_frac {fuel:Nat} {cs:List Value} {x:DataW H × List MemPlace} (h:DataW.trod enc Tryz.prog w base spare held fuel 25 cs = some x):∃ r:RF,cs = (rfC r).toList:=by
 obtain ⟨y0,y1,n,_,hl,h0,h1⟩:=trod_struct2 Tryz.underlying25 h
 obtain ⟨a,e0⟩:=rd_whole h0
 obtain ⟨b,e1⟩:=rd_whole h1
 rw [show Tryz.prog.cellsOf 25 = 4 by kernel_rfl] at hl
 rw [show Tryz.prog.cellsOf 23 = 2 by kernel_rfl] at e0 e1
 obtain ⟨u0,u1,u2,u3,rfl⟩:=list4 hl
 simp only [List.drop_zero,List.drop_succ_cons,List.take_succ_cons,List.take_zero,List.cons.injEq,and_true] at e0 e1
 obtain ⟨rfl,rfl⟩:=e0
 obtain ⟨rfl,rfl⟩:=e1
 exact ⟨⟨a,b⟩,rfl⟩
theorem rd_gauss {fuel:Nat} {cs:List Value} {x:DataW H × List MemPlace} (h:DataW.trod enc Tryz.prog w base spare held fuel 27 cs = some x):∃ r:RG,cs = (rgC r).toList:=by
 obtain ⟨y0,y1,n,_,hl,h0,h1⟩:=trod_struct2 Tryz.underlying27 h
 obtain ⟨a,e0⟩:=rd_frac h0
 obtain ⟨b,e1⟩:=rd_frac h1
 rw [show Tryz.prog.cellsOf 27 = 8 by kernel_rfl] at hl
 rw [show Tryz.prog.cellsOf 25 = 4 by kernel_rfl] at e0 e1
 obtain ⟨u0,u1,u2,u3,u4,u5,u6,u7,rfl⟩:=list8 hl
 simp only [List.drop_zero,List.drop_succ_cons,List.take_succ_cons,List.take_zero,List.cons.injEq,and_true] at e0 e1
 obtain ⟨rfl,rfl,rfl,rfl⟩:=e0
 obtain ⟨rfl,rfl,rfl,rfl⟩:=e1
 exact ⟨⟨a,b⟩,rfl⟩
end
section
variable {H:Type} {enc:TypeId × Value → H} {w:World} {base:Nat} {spare:Nat → Bool} {held:Bool}
theorem trod_struct3 {P:Program} {t:TypeId} {f0 f1 f2:Field} {fuel:Nat} {cs:List Value} {x:DataW H × List MemPlace} (ht:P.underlying t = some (.struct #[f0,f1,f2])) (h:DataW.trod enc P w base spare held fuel t cs = some x) :
  ∃ y0 y1 y2 n,cs.length = P.cellsOf t ∧ DataW.trod enc P w base spare held n f0.type ((cs.drop f0.offset).take (P.cellsOf f0.type)) = some y0 ∧
   DataW.trod enc P w base spare held n f1.type ((cs.drop f1.offset).take (P.cellsOf f1.type)) = some y1 ∧
   DataW.trod enc P w base spare held n f2.type ((cs.drop f2.offset).take (P.cellsOf f2.type)) = some y2:=by
 obtain ⟨xs,n,_,_,hl,hlen,hf⟩:=DataW.trod_struct ht h
 match xs,hlen with
 | [y0,y1,y2],_=>exact ⟨y0,y1,y2,n,hl,by simpa using hf 0 f0 rfl,by simpa using hf 1 f1 rfl,by simpa using hf 2 f2 rfl⟩
theorem cut_at {α:Type} (cs:List α) (n k:Nat):cs.drop n = (cs.drop n).take k ++ cs.drop (n + k):=by rw [← List.drop_drop]; exact (List.take_append_drop k _).symm
theorem rd_circ {fuel:Nat} {cs:List Value} {x:DataW H × List MemPlace} (h:DataW.trod enc Tryz.prog w base spare held fuel 47 cs = some x):∃ r:RCi,cs = (rciC r).toList:=by
 obtain ⟨y0,y1,y2,n,hl,h0,h1,h2⟩:=trod_struct3 Tryz.underlying47 h
 obtain ⟨a,e0⟩:=rd_frac h0
 obtain ⟨b,e1⟩:=rd_gauss h1
 obtain ⟨c,e2⟩:=rd_frac h2
 rw [show Tryz.prog.cellsOf 47 = 16 by kernel_rfl] at hl
 rw [show Tryz.prog.cellsOf 25 = 4 by kernel_rfl] at e0 e2
 rw [show Tryz.prog.cellsOf 27 = 8 by kernel_rfl] at e1
 refine ⟨⟨a,b,c⟩,?_⟩
 have e0' : (cs.drop 0).take 4 = _:=e0
 have e1' : (cs.drop 4).take 8 = _:=e1
 have e2' : (cs.drop 12).take 4 = _:=e2
 have e3:cs.drop 12 = (cs.drop 12).take 4:=(List.take_of_length_le (by rw [List.length_drop,hl]; decide)).symm
 have e:cs = (cs.drop 0).take 4 ++ ((cs.drop 4).take 8 ++ cs.drop 12):=by
  rw [← cut_at cs 4 8,← cut_at cs 0 4,List.drop_zero]
 rw [e,e3,e0', e1', e2']
 rfl
set_option maxRecDepth 100000 in
theorem open_circ {r:Reach} {b0:Nat} {v:Value} {d:DataW H} {p:List MemPlace} (hv:Value.okWide Tryz.prog w r b0 47 v) (h:DataW.Trod enc Tryz.prog w base spare held 47 v d p):∃ r:RCi,v = rciV r:=by
 obtain ⟨cs,rfl,_⟩:=okWide_struct Tryz.underlying47 hv
 obtain ⟨fuel,hf⟩:=h
 obtain ⟨r,e⟩:=rd_circ hf
 exact ⟨r,by rw [show cs = rciC r from Array.ext' e]⟩
theorem rd_pnt {fuel:Nat} {cs:List Value} {x:DataW H × List MemPlace} (h:DataW.trod enc Tryz.prog w base spare held fuel 56 cs = some x):∃ r:RPn,cs = (rpnC r).toList:=by
 obtain ⟨y0,y1,n,_,hl,h0,h1⟩:=trod_struct2 Tryz.underlying56 h
 obtain ⟨b,e0,_⟩:=DataW.trod_bool Tryz.underlying4 h0
 obtain ⟨z,e1⟩:=rd_gauss h1
 rw [show Tryz.prog.cellsOf 56 = 9 by kernel_rfl] at hl
 rw [show Tryz.prog.cellsOf 4 = 1 by kernel_rfl] at e0
 rw [show Tryz.prog.cellsOf 27 = 8 by kernel_rfl] at e1
 refine ⟨⟨b,z⟩,?_⟩
 have e0' : (cs.drop 0).take 1 = _:=e0
 have e1' : (cs.drop 1).take 8 = _:=e1
 have e3:cs.drop 1 = (cs.drop 1).take 8:=(List.take_of_length_le (by rw [List.length_drop,hl]; decide)).symm
 have e:cs = (cs.drop 0).take 1 ++ cs.drop 1:=by rw [← cut_at cs 0 1,List.drop_zero]
 rw [e,e3,e0', e1']
 rfl
set_option maxRecDepth 100000 in
theorem open_pnt {r:Reach} {b0:Nat} {v:Value} {d:DataW H} {p:List MemPlace} (hv:Value.okWide Tryz.prog w r b0 56 v) (h:DataW.Trod enc Tryz.prog w base spare held 56 v d p):∃ r:RPn,v = rpnV r:=by
 obtain ⟨cs,rfl,_⟩:=okWide_struct Tryz.underlying56 hv
 obtain ⟨fuel,hf⟩:=h
 obtain ⟨r,e⟩:=rd_pnt hf
 exact ⟨r,by rw [show cs = rpnC r from Array.ext' e]⟩
end
end Go.Proofs.YtcpjdjnaipbieaaGreat
namespace Go.Proofs.YtcpjdjnaipbieaaGreat
open Go.ChangeShapes Go.WideShapes Go.ChangeAt Go.RowKit Go.WideElems
theorem law_own:ownKnob Tryz.prog.godebug = none:=by kernel_rfl
theorem law_laid:laidOutB Tryz.prog = true:=by kernel_rfl
section
variable {H:Type} {enc:TypeId × Value → H}
theorem trodAll_stays {W W' : World} {sp:Nat → Bool}:∀ {ts:List TypeId} {vs:List Value} {ds:List (DataW H)} {ps:List MemPlace},(∀ t ∈ ts,Tryz.prog.readableRec t = true ∧ t < Tryz.prog.types.size) →
  DataW.TrodAll enc Tryz.prog W 0 (fun _=>true) true ts vs ds ps → (∀ p ∈ ps,W.sameAt W' p) → (∀ p ∈ ps,sp p.block = true) → DataW.TrodAll enc Tryz.prog W' 0 sp true ts vs ds ps:=by
 intro ts
 induction ts with
 | nil =>
  intro vs ds ps _ h _ _
  obtain ⟨rfl,rfl,rfl⟩:=trodAll_nil h
  exact trodAll_mk0
 | cons t ts ih =>
  intro vs ds ps ht h hs hb
  obtain ⟨v,vs', d,ds', p,p', rfl,rfl,rfl,h0,h1⟩:=trodAll_cons h
  obtain ⟨h2,h3⟩:=ht t (by simp)
  exact trodAll_cons_mk (Trod_stays law_laid h2 h3 h0 (fun q hq=>hs q (by simp [hq])) (fun q hq=>hb q (by simp [hq]))) (ih (fun t ht' => ht t (by simp [ht'])) h1 (fun q hq=>hs q (by simp [hq])) (fun q hq=>hb q (by simp [hq])))
set_option maxRecDepth 100000 in
theorem law_post {f:Func} {s:ChangeSpec} {fresh handsOn again:Bool} {W W' : World} {args:Array Value} {ds gs:List (DataW H)} {before:List MemPlace} (hW:DataW.Whole enc Tryz.prog f.params.toList s.vars false W args.toList ds gs before)
  (hv:s.vars = []) (hfn:s.fn H ds = { results:=[.lit (.bool true)],args:=ds }) (hr:f.resultTypes = #[4]) (hp:f.params.toList.all (fun t=>Tryz.prog.readableRec t && decide (t < Tryz.prog.types.size)) = true) (hb:Below W.heap.size W W') :
  s.post enc Tryz.prog f false fresh handsOn again W args (.bool true) W' := by
 have hlt:∀ p ∈ before,p.block < W.heap.size:=fun p hq=>hW.lt p hq
 have hW' := hW
 obtain ⟨p,q,hA,hV,rfl,hfz,hnd⟩:=hW
 rw [hv] at hV
 obtain ⟨rfl,rfl⟩:=trodVars_none hV
 have hpar:∀ t ∈ f.params.toList,Tryz.prog.readableRec t = true ∧ t < Tryz.prog.types.size:=fun t ht=>by
  have:=List.all_eq_true.1 hp t ht
  simpa using this
 have hargs:∀ sp:Nat → Bool,(∀ x ∈ p ++ [],sp x.block = true) → DataW.TrodAll enc Tryz.prog W' 0 sp true f.params.toList args.toList ds p:=fun sp hs =>
  trodAll_stays hpar hA (fun x hx=>hb.same (hlt x (by simp [hx]))) (fun x hx=>hs x (by simp [hx]))
 have hres:∀ (b:Nat) (sp:Nat → Bool) (hd:Bool),DataW.TrodAll enc Tryz.prog W' b sp hd f.resultTypes.toList (Value.resultList f.resultTypes.size (.bool true)) [.lit (.bool true)] []:=fun _ _ _=>by
  rw [hr]
  exact trodAll_cons_mk (shut_bool Tryz.underlying4 _) trodAll_mk0
 have hold:∀ x ∈ p ++ [],(fun b=>decide (b < W.heap.size)) x.block = true:=fun x hx=>by simpa using hlt x hx
 have hfn' : s.fn H (ds ++ []) = { results:=[.lit (.bool true)],args:=ds }:=by rw [List.append_nil]; exact hfn
 refine ⟨ds,[],p ++ [],[],p,[],hW', by rw [hfn']; exact hres _ _ _,by rw [hfn']; exact hargs _ hold,by rw [hv,hfn']; rfl,World.keptBut_mono (fun x hx=>⟨hx,?_⟩) (hb.frame (· ∈ p ++ [])),fun _=>?_⟩
 ·simpa using hx
 ·refine ⟨ok_one hr rfl (okWide_bool_mk Tryz.underlying4 _),_,[],([] ++ p) ++ [],⟨[] ++ p,[],trodAll_append (hargs _ (fun _ _=>rfl)) (hres _ _ _),by rw [hv]; rfl,rfl,?_,?_⟩,?_⟩
  ·intro b off hx
   have hin:MemPlace.cell b off ∈ p ++ []:=by simpa using hx
   rw [hb.frozen (hlt _ hin)]
   exact hfz b off hin
  ·intro ha
   have:=hnd ha
   simpa using this
  ·intro x hx _
   simpa using hx
end
end Go.Proofs.YtcpjdjnaipbieaaGreat
namespace Go.Proofs.YtcpjdjnaipbieaaGreat.ivOvLaw
open Go.ChangeShapes Go.WideShapes Go.ChangeAt Go.RowKit
theorem lOv {W:World} (c d:RCi) (p:RPn):Calls Tryz.prog 5 #[rciV c,rciV d,rpnV p] W (RetV (.bool true) W):=by
 cases h:(lgC c || lgC d) with
 | true=>exact lOv0 c d p h
 | false=>cases h1:lgG p.z with
  | true=>exact lOv1 c d p h h1
  | false=>cases h2:ciOk c with
   | false=>exact lOv2 c d p h h1 h2
   | true =>
    obtain ⟨c,rfl,_⟩:=ciOk_ex h2
    cases h3:ciOk d with
    | false=>cases h4:pnOk p with
     | false=>exact lOv3 c d p h h1 h2 h3 h4
     | true =>
      obtain ⟨P,rfl,hP⟩:=pnOk_ex h4
      exact lOv4 P c d h h1 h2 h3 hP
    | true =>
     obtain ⟨d,rfl,_⟩:=ciOk_ex h3
     cases h4:pnOk p with
     | false=>exact lOv5 c d p h h1 h2 h3 h4
     | true =>
      obtain ⟨P,rfl,hP⟩:=pnOk_ex h4
      exact lOv6 P c d h h1 h2 h3 hP
set_option maxRecDepth 100000 in
theorem contract (H:Type) (enc:TypeId × Value → H) (W:World) (base:Nat) (args:Array Value) (ds gs:List (DataW H)) (before:List MemPlace)
  (hval:∀ (j:Nat) t v,Tryz.f5.params[j]? = some t → args[j]? = some v → Value.okWide Tryz.prog W .any base t v)
  (hW:DataW.Whole enc Tryz.prog Tryz.f5.params.toList Rows.invertOverSpec.vars false W args.toList ds gs before) :
  Calls Tryz.prog 5 args W fun e W' => ∃ v,e = .returned v ∧ Rows.invertOverSpec.post enc Tryz.prog Tryz.f5 false true false false W args v W' := by
 have hW' := hW
 obtain ⟨p,q,hA,hV,rfl,hfz,hnd⟩:=hW
 rw [Tryz.params5] at hA hval
 obtain ⟨v0,vs0,d0,ds0,p0,q0,hargs,rfl,rfl,h0,r0⟩:=trodAll_cons hA
 obtain ⟨v1,vs1,d1,ds1,p1,q1,rfl,rfl,rfl,h1,r1⟩:=trodAll_cons r0
 obtain ⟨v2,vs2,d2,ds2,p2,q2,rfl,rfl,rfl,h2,r2⟩:=trodAll_cons r1
 obtain ⟨rfl,rfl,rfl⟩:=trodAll_nil r2
 obtain rfl:args = #[v0,v1,v2]:=by cases args; simp_all
 obtain ⟨rfl,rfl⟩:=trodVars_none hV
 obtain ⟨c,rfl⟩:=open_circ (hval 0 _ v0 rfl rfl) h0
 obtain ⟨d,rfl⟩:=open_circ (hval 1 _ v1 rfl rfl) h1
 obtain ⟨p,rfl⟩:=open_pnt (hval 2 _ v2 rfl rfl) h2
 refine (lOv c d p).mono fun e W' h=>?_
 obtain ⟨h1,h2⟩:=h.is
 exact ⟨_,h1,law_post hW' rfl rfl rfl (by kernel_rfl) h2⟩
set_option maxRecDepth 100000 in
theorem lifted (os:Os) (started:os.Started) (H:Type) (enc:TypeId × Value → H) :
  ReturnsInHanded {} Tryz.checked os 5 .any (Rows.invertOverSpec.pre6 enc Tryz.prog Tryz.f5 Rows.invertOverRow.domain false) (Rows.invertOverSpec.post enc Tryz.prog Tryz.f5 false true false false):=by
 refine returnsInHanded_of_change (C:=Tryz.checked) law_own started (by kernel_rfl) Tryz.func5
  (ChangeSpec.witness6 (enc:=enc) (C:=Tryz.checked) false ⟨#[],#[.agg #[.bool false,.string ⟨#[]⟩,.bool false,.string ⟨#[]⟩,.bool false,.string ⟨#[]⟩,.bool false,.string ⟨#[]⟩,.bool false,.string ⟨#[]⟩,.bool false,.string ⟨#[]⟩,.bool false,.string ⟨#[]⟩,.bool false,.string ⟨#[]⟩],.agg #[.bool false,.string ⟨#[]⟩,.bool false,.string ⟨#[]⟩,.bool false,.string ⟨#[]⟩,.bool false,.string ⟨#[]⟩,.bool false,.string ⟨#[]⟩,.bool false,.string ⟨#[]⟩,.bool false,.string ⟨#[]⟩,.bool false,.string ⟨#[]⟩],.agg #[.bool false,.bool false,.string ⟨#[]⟩,.bool false,.string ⟨#[]⟩,.bool false,.string ⟨#[]⟩,.bool false,.string ⟨#[]⟩]],[]⟩ 8 (by kernel_rfl) (by kernel_rfl) (by kernel_rfl) (by kernel_rfl)) ?_
 intro W base args ds gs before hval hW _ _
 exact contract H enc W base args ds gs before hval hW
theorem kA:Tryz.pinned.checked.prog.funcNamed Rows.invertOverRow.func = some 5:=by kernel_rfl
theorem laidP:laidOutB Tryz.pinned.checked.prog = true:=law_laid
set_option maxRecDepth 100000 in
set_option maxHeartbeats 4000000 in
theorem kB:joinedFacts Tryz.pinned.checked.prog 5 Tryz.f5 Rows.invertOverSpec Rows.invertOverRow = true:=by
 unfold joinedFacts
 simp only [Bool.and_eq_true]
 repeat' apply And.intro
 all_goals first | with_reducible exact laidP | as_aux_lemma=>kernel_rfl
theorem kC:Tryz.f5.isInstance Tryz.pinned.checked.prog Rows.invertOverRow.origin Rows.invertOverRow.targs:=of_decide_eq_true (by kernel_rfl)
theorem kD:Tryz.f5.isWrapper Tryz.pinned.checked.prog Rows.invertOverRow.wrapper Rows.invertOverRow.mainSum:=by
 unfold Func.isWrapper; first | (rw [if_pos (by decide +kernel)]; kernel_rfl) | (rw [if_neg (by decide +kernel)]; exact ⟨rfl,rfl⟩)
theorem over:Rows.InvertOverSaid :=
 OpenClaim.holds_of_wide 5 Tryz.f5 rfl rfl rfl rfl rfl rfl rfl ⟨rfl,rfl,rfl,rfl,rfl⟩ rfl rfl rfl rfl rfl kA Tryz.func5 kB kC kD
  (fun os started H enc _=>lifted os started H enc)
end Go.Proofs.YtcpjdjnaipbieaaGreat.ivOvLaw
namespace Go.Proofs.YtcpjdjnaipbieaaGreat
theorem invertOver_proved:Rows.InvertOverSaid:=ivOvLaw.over
end Go.Proofs.YtcpjdjnaipbieaaGreat
