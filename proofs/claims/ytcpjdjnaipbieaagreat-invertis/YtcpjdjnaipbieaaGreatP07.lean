/- tracerylaw14.InvertIs returns true for every map, and changes nothing that it was handed. No condition. -/
import Derived.Test.YtcpjdjnaipbieaaGreatP06
import Derived.ProofKit
import Derived.OpenShut
import Derived.JoinedCond
import Derived.Deep.Slices
import Derived.Deep.Strs
import Derived.Test.YtcpjdjnaipbieaaGreatRows
import Derived.WalkKit
import Derived.Below
import Derived.ChangeSame
import Derived.WideKeyArgs
import Derived.JoinedOf
import Derived.JoinedAt
set_option linter.unusedVariables false
set_option linter.unusedSimpArgs false
namespace Go.Proofs.YtcpjdjnaipbieaaGreat
open Go.RowKit Rgn Eng
set_option maxHeartbeats 4000000
set_option maxRecDepth 100000
variable {S:Nat → Prop} {W:World}
theorem mtSend {v0:Value} {v1:Value} (m:Mb) (p:Pn) (t0:(MatP m).p S v0 W) (t1:(PlaceP p).p S v1 W) (p0:ht m.a.re + ht m.a.im + ht m.b.re + ht m.b.im + ht m.c.re + ht m.c.im + ht m.d.re + ht m.d.im + (ht p.z.re + ht p.z.im) ≤ 67108864) :
  Calls Tryz.prog 157 #[v0,v1] W (Ret (PlaceP (m.send p)) S W):=by
 have h1:=hc_conj p.z
 have h2:=hc_mul m.a p.z
 have h3:=hc_mul m.c p.z
 have h4:=hc_mul m.a p.z.conj
 have h5:=hc_mul m.c p.z.conj
 have h6:=hc_add (m.a.mul p.z) m.b
 have h7:=hc_add (m.c.mul p.z) m.d
 have h8:=hc_add (m.a.mul p.z.conj) m.b
 have h9:=hc_add (m.c.mul p.z.conj) m.d
 refine Run.goP ((Pack.nil.s spMat t0).s spPlace t1) Tryz.func157 rfl ?_
 refine Run.dr ?_
 refine RunD.en ?_
 rcases Bool.eq_false_or_eq_true (!p.inf) with c0 | c0
 · have c1:p.inf = false:=by simpa using c0
   refine Run.kn c1 ?_
   rcases Bool.eq_false_or_eq_true m.t with c2 | c2
   · refine Run.kn c2 ?_
     refine Run.cR spNum (fun β ℓ w H=>eConj p.z (NumP.mk (H.f 8) (H.f 9)) (by first | omega | (dsimp only at *; omega))) ?_
     refine Run.dr ?_
     refine RunD.cR spNum (fun β ℓ w H=>eNMul m.a p.z.conj (NumP.mk (H.f 0) (H.f 1)) (NumP.mk (H.f 10) (H.f 11)) (by first | omega | (dsimp only at *; omega))) ?_
     refine RunD.cR spNum (fun β ℓ w H=>eAdd (m.a.mul p.z.conj) m.b (NumP.mk (H.f 12) (H.f 13)) (NumP.mk (H.f 2) (H.f 3)) (by first | omega | (dsimp only at *; omega))) ?_
     refine RunD.cR spNum (fun β ℓ w H=>eNMul m.c p.z.conj (NumP.mk (H.f 4) (H.f 5)) (NumP.mk (H.f 10) (H.f 11)) (by first | omega | (dsimp only at *; omega))) ?_
     refine RunD.cR spNum (fun β ℓ w H=>eAdd (m.c.mul p.z.conj) m.d (NumP.mk (H.f 16) (H.f 17)) (NumP.mk (H.f 6) (H.f 7)) (by first | omega | (dsimp only at *; omega))) ?_
     refine RunD.en ?_
     refine Run.cV [.bool ((m.c.mul p.z.conj).add m.d).zero] kb (fun β ℓ w H=>eZero ((m.c.mul p.z.conj).add m.d) (NumP.mk (H.f 18) (H.f 19))) ?_
     rcases Bool.eq_false_or_eq_true ((m.c.mul p.z.conj).add m.d).zero with c3 | c3
     · refine Run.kn c3 ?_
       exact Run.rR (fun β ℓ w H=>place_eq (send_n1T c0 c2 c3) (PlaceP.mk (.inl ⟨rfl,rfl⟩) (.inl ⟨rfl,rfl⟩)))
     refine Run.kn c3 ?_
     refine Run.cR spNum (fun β ℓ w H=>eDiv ((m.a.mul p.z.conj).add m.b) ((m.c.mul p.z.conj).add m.d) (NumP.mk (H.f 14) (H.f 15)) (NumP.mk (H.f 18) (H.f 19)) (by first | omega | (dsimp only at *; omega)) (zero_norm c3)) ?_
     exact Run.rR (fun β ℓ w H=>place_eq (send_n1F c0 c2 c3) (PlaceP.mk (H.f 20) (H.f 21)))
   · refine Run.kn c2 ?_
     refine Run.dr ?_
     refine RunD.cR spNum (fun β ℓ w H=>eNMul m.a p.z (NumP.mk (H.f 0) (H.f 1)) (NumP.mk (H.f 8) (H.f 9)) (by first | omega | (dsimp only at *; omega))) ?_
     refine RunD.cR spNum (fun β ℓ w H=>eAdd (m.a.mul p.z) m.b (NumP.mk (H.f 10) (H.f 11)) (NumP.mk (H.f 2) (H.f 3)) (by first | omega | (dsimp only at *; omega))) ?_
     refine RunD.cR spNum (fun β ℓ w H=>eNMul m.c p.z (NumP.mk (H.f 4) (H.f 5)) (NumP.mk (H.f 8) (H.f 9)) (by first | omega | (dsimp only at *; omega))) ?_
     refine RunD.cR spNum (fun β ℓ w H=>eAdd (m.c.mul p.z) m.d (NumP.mk (H.f 14) (H.f 15)) (NumP.mk (H.f 6) (H.f 7)) (by first | omega | (dsimp only at *; omega))) ?_
     refine RunD.en ?_
     refine Run.cV [.bool ((m.c.mul p.z).add m.d).zero] kb (fun β ℓ w H=>eZero ((m.c.mul p.z).add m.d) (NumP.mk (H.f 16) (H.f 17))) ?_
     rcases Bool.eq_false_or_eq_true ((m.c.mul p.z).add m.d).zero with c3 | c3
     · refine Run.kn c3 ?_
       exact Run.rR (fun β ℓ w H=>place_eq (send_n0T c0 c2 c3) (PlaceP.mk (.inl ⟨rfl,rfl⟩) (.inl ⟨rfl,rfl⟩)))
     refine Run.kn c3 ?_
     refine Run.cR spNum (fun β ℓ w H=>eDiv ((m.a.mul p.z).add m.b) ((m.c.mul p.z).add m.d) (NumP.mk (H.f 12) (H.f 13)) (NumP.mk (H.f 16) (H.f 17)) (by first | omega | (dsimp only at *; omega)) (zero_norm c3)) ?_
     exact Run.rR (fun β ℓ w H=>place_eq (send_n0F c0 c2 c3) (PlaceP.mk (H.f 18) (H.f 19)))
 · have c1:p.inf = true:=by simpa using c0
   refine Run.kn c1 ?_
   refine Run.cV [.bool m.c.zero] kb (fun β ℓ w H=>eZero m.c (NumP.mk (H.f 4) (H.f 5))) ?_
   rcases Bool.eq_false_or_eq_true m.c.zero with c3 | c3
   · refine Run.kn c3 ?_
     exact Run.rR (fun β ℓ w H=>place_eq (send_iT c0 c3) (PlaceP.mk (.inl ⟨rfl,rfl⟩) (.inl ⟨rfl,rfl⟩)))
   refine Run.kn c3 ?_
   refine Run.cR spNum (fun β ℓ w H=>eDiv m.a m.c (NumP.mk (H.f 0) (H.f 1)) (NumP.mk (H.f 4) (H.f 5)) (by first | omega | (dsimp only at *; omega)) (zero_norm c3)) ?_
   exact Run.rR (fun β ℓ w H=>place_eq (send_iF c0 c3) (PlaceP.mk (H.f 10) (H.f 11)))
end Go.Proofs.YtcpjdjnaipbieaaGreat
namespace Go.Proofs.YtcpjdjnaipbieaaGreat
open Go.RowKit Rgn
set_option maxHeartbeats 1000000
set_option maxRecDepth 100000
variable {S:Nat → Prop} {W:World}
theorem ivPtZ (c:Ci) (z:Cx) (p0:ciOk (rci c) = true) (p1:gfits (rg z) = true) :
  Calls Tryz.prog 32 #[ciV c,pnV (Pn.mk false z)] W (RetV (.tuple #[.agg #[.bool ((pncut (c.over.send (Pn.mk false z))).inf),.bool ((((pncut (c.over.send (Pn.mk false z))).z).re).a).n,.string ((((pncut (c.over.send (Pn.mk false z))).z).re).a).s,.bool ((((pncut (c.over.send (Pn.mk false z))).z).re).b).n,.string ((((pncut (c.over.send (Pn.mk false z))).z).re).b).s,.bool ((((pncut (c.over.send (Pn.mk false z))).z).im).a).n,.string ((((pncut (c.over.send (Pn.mk false z))).z).im).a).s,.bool ((((pncut (c.over.send (Pn.mk false z))).z).im).b).n,.string ((((pncut (c.over.send (Pn.mk false z))).z).im).b).s],.int .i64 (pnerr (c.over.send (Pn.mk false z)))]) W):=by
 have f3:ht z.re + ht z.im ≤ 20000:=gfits_ht2 p1
 have f1:=cifits_ht (ciOk_c p0).1
 have f2:=over_l2 f1
 have f4:ht c.over.a.re + ht c.over.a.im + ht c.over.b.re + ht c.over.b.im + ht c.over.c.re + ht c.over.c.im + ht c.over.d.re + ht c.over.d.im + (ht (Pn.mk false z).z.re + ht (Pn.mk false z).z.im) ≤ 67108864:=Nat.le_trans (Nat.add_le_add f2 (f3)) (by decide)
 have f5:ht (c.over.send (Pn.mk false z)).z.re + ht (c.over.send (Pn.mk false z)).z.im ≤ 1073741824:=Nat.le_trans (send_le f2 (Nat.le_trans (f3) (by decide))) (by decide)
 clear f2
 have bel:=b0 W
 go_enter Tryz.func32,Tryz.ntmps32
 refine gs 4 (Amb Z0 W) fun _ K1=>?_
 refine .bx rfl (fun H=>H.v 0 (ciV c)) ?_
 refine .bx rfl (fun H=>H.v 1 (pnV (Pn.mk false z))) ?_
 refine .al rfl zPn ?_
 refine .mc rfl ?_
 refine .dk (fun u=>ciV c::pnV (Pn.mk false z)::sq u 0 4 (us 28)) K1 bel fun u1 w1 D bel=>?_
 obtain ⟨b2,E1_0,A2,B2⟩:=D.nw 0
 obtain ⟨b3,E1_1,A3,B3⟩:=D.nw 1
 obtain ⟨b4,E1_2,A4,B4⟩:=D.nw 2
 have E1_3:=D.q 3
 have N2_4:=D.n2 0 2 E1_0 E1_2
 have N3_4:=D.n2 1 2 E1_1 E1_2
 clear D
 refine gs 8 (Amb Z0 W) fun _ K5=>?_
 refine .lr rfl 2 E1_0 B2 ?_
 refine .cR rfl [] Tryz.func155 (fun H=>⟨_,ar1 (H.g 11 0),eWheelO _ (by first | omega | assumption)⟩) ?_
 refine .mn rfl 1 [1] ?_
 refine Go2.fn (i:=3) rfl (G0 rfl) (.val 3 [1,2] (RingP c)) (fun u μ ρ H=>by have e10:=H.r 10 2; have h0:=(H.a 2 rfl); obtain ⟨x0,x1,h1,h2⟩:=h0; rw [h1] at e10; exact ⟨x0,by clear H; go_simp,SP.tupKeep (by decide) (by decide) h2.1⟩) ?_
 refine .e rfl (V:=.bool true) (fun H=>by have e10:=H.r 10 2; have h0:=(H.a 2 rfl); obtain ⟨x0,x1,h1,h2,h3⟩:=h0; rw [h1] at e10; have h3:x1 = .bool true:=h3; subst h3; clear H; go_simp) ?_
 refine .al rfl (#[.pointer none,.pointer none,.pointer none,.pointer none]) ?_
 refine Go2.storeOwn (i:=6) (m:=5) rfl rfl (.head _) (SP.cells 5 [3] (fun u=>#[((u 3).v.cells.getD 0 undef),((u 3).v.cells.getD 1 undef),((u 3).v.cells.getD 2 undef),((u 3).v.cells.getD 3 undef)]) 203 (by intro u u' h; simp [h 3 (by simp)])) (fun u μ ρ b H h0 hB hb=>?_) ?_
 · have e6:=H.r 6 5; have e13:=H.r 13 3
   rw [h0] at e6
   obtain ⟨x1,x2,x3,x4,h1,h2,h3,h4,h5⟩:=(H.a 3 rfl)
   have o1:=VP1.rat h2
   have o2:=VP1.ratn h3
   have o3:=VP1.ratn h4
   have o4:=VP1.rat h5
   rw [h1] at e13
   refine ⟨μ.setRow b #[x1,x2,x3,x4],ex_store_row 203 _ _ rfl e6 e13 hb (by kernel_rfl) rfl (by simp [o1,o2,o3,o4] <;> rfl),fun g=>⟨b,?_,hB,?_⟩,setRow_only _ _ _⟩
   · rw [upd_other _ _ (by decide)]; exact h0
   · rw [setRow_at hb]; try simp [upd,h1,Value.cells]
 refine .mv rfl 4 ?_
 refine .dk (fun u=>ciV c::pnV (Pn.mk false z)::sq u1 0 4 (u 5::u 7::U::U::u 2::u 0::u 1::u 3::u 4::us 19)) K5 bel fun u2 w2 D bel=>?_
 obtain ⟨b6,x7,x8,b9,E2_3,L6,L9,F6,F_x7,F_x8,F9⟩:=RingP.elim (D.rr 3)
 obtain ⟨b10,E2_5,A10,B10⟩:=(D.a 6 rfl)
 replace A10:=le2 D.le A10
 have E2_7:=D.q 7
 have N4_10:=D.n1 5 (lt_of B4) E2_5
 replace B3:=D.k B3
 replace B4:=D.k B4
 simp only [Value.cells,E2_3,E2_5] at B10
 replace B10:w2.heap[b10]? = some (.cells #[pt b6,x7,x8,pt b9] 203 (0,0)):=B10
 clear D
 refine gs 8 (Amb Z0 W) fun _ K11=>?_
 refine .lr rfl 3 E1_1 B3 ?_
 refine .cR rfl [] Tryz.func156 (fun H=>⟨_,ar1 (H.g 16 0),eSpotZ z (by first | omega | assumption)⟩) ?_
 refine .mn rfl 1 [1] ?_
 refine Go2.fn (i:=3) rfl (G0 rfl) (.val 3 [1,2] (PlaceP (Pn.mk false z))) (fun u μ ρ H=>by have e15:=H.r 15 2; have h0:=(H.a 2 rfl); obtain ⟨x0,x1,h1,h2⟩:=h0; rw [h1] at e15; exact ⟨x0,by clear H; go_simp,SP.tupKeep (by decide) (by decide) h2.1⟩) ?_
 refine .e rfl (V:=.bool true) (fun H=>by have e15:=H.r 15 2; have h0:=(H.a 2 rfl); obtain ⟨x0,x1,h1,h2,h3⟩:=h0; rw [h1] at e15; have h3:x1 = .bool true:=h3; subst h3; clear H; go_simp) ?_
 refine .al rfl (#[.bool false,.pointer none,.pointer none]) ?_
 refine Go2.storeOwn (i:=6) (m:=5) rfl rfl (.head _) (SP.cells 5 [3] (fun u=>#[.bool ((Pn.mk false z).inf),((u 3).v.cells.getD 1 undef),((u 3).v.cells.getD 2 undef)]) 229 (by intro u u' h; simp [h 3 (by simp)])) (fun u μ ρ b H h0 hB hb=>?_) ?_
 · have e8:=H.r 8 5; have e18:=H.r 18 3
   rw [h0] at e8
   obtain ⟨x2,x3,h1,h3,h4⟩:=(H.a 3 rfl)
   have o2:=VP1.ratn h3
   have o3:=VP1.ratn h4
   rw [h1] at e18
   refine ⟨μ.setRow b #[.bool ((Pn.mk false z).inf),x2,x3],ex_store_row 229 _ _ rfl e8 e18 hb (by kernel_rfl) rfl (by simp [o2,o3] <;> rfl),fun g=>⟨b,?_,hB,?_⟩,setRow_only _ _ _⟩
   · rw [upd_other _ _ (by decide)]; exact h0
   · rw [setRow_at hb]; try simp [upd,h1,Value.cells]
 refine .mv rfl 4 ?_
 refine .dk (fun u=>ciV c::pnV (Pn.mk false z)::sq u1 0 4 (u2 5::u2 7::u 5::u 7::u2 2::u2 0::u2 1::u2 3::u2 4::u 2::u 0::u 1::u 3::u 4::us 14)) K11 bel fun u3 w3 D bel=>?_
 obtain ⟨x12,x13,E3_3,F_x12,F_x13⟩:=(D.rr 3)
 obtain ⟨b14,E3_5,A14,B14⟩:=(D.a 6 rfl)
 replace A14:=le2 D.le A14
 have E3_7:=D.q 7
 have N4_14:=D.n1 5 (lt_of B4) E3_5
 replace B4:=D.k B4
 replace B10:=D.k B10
 simp only [Value.cells,E3_3,E3_5] at B14
 replace B14:w3.heap[b14]? = some (.cells #[.bool ((Pn.mk false z).inf),x12,x13] 229 (0,0)):=B14
 replace F6:=D.o L6 F6
 replace F9:=D.o L9 F9
 replace F_x7:=D.gr (RatN c.b.re) F_x7
 replace F_x8:=D.gr (RatN c.b.im) F_x8
 clear D
 refine wp_seq_k fun _ K15=>?_
 refine gs 6 (Amb Z0 W) fun _ K16=>?_
 refine .mz rfl 7 E2_7 ?_
 refine .e rfl (V:=.bool false) (fun H=>x_not (H.g 20 0)) ?_
 refine .mv rfl 1 ?_
 refine .mz rfl 9 E3_7 ?_ (hg:=gq 2 rfl)
 refine .e rfl (V:=.bool false) (fun H=>x_not (H.g 23 3)) ?_ (hg:=gq 2 rfl)
 refine .e rfl (fun H=>x_pkF (H.g 22 2) (H.g 24 4)) ?_
 refine .dk (fun u=>ciV c::pnV (Pn.mk false z)::sq u1 0 4 (u2 5::u2 7::u3 5::u3 7::u2 2::u2 0::u2 1::u2 3::u2 4::u3 2::u3 0::u3 1::u3 3::u3 4::sq u 0 6 (us 8))) K16 bel fun u4 w4 D bel=>?_
 have E4_5:=D.q 5
 replace B4:=D.k B4
 replace B10:=D.k B10
 replace B14:=D.k B14
 replace F6:=D.o L6 F6
 replace F9:=D.o L9 F9
 replace F_x7:=D.gr (RatN c.b.re) F_x7
 replace F_x8:=D.gr (RatN c.b.im) F_x8
 replace F_x12:=D.gr (RatN (((Pn.mk false z).z).re)) F_x12
 replace F_x13:=D.gr (RatN (((Pn.mk false z).z).im)) F_x13
 clear D
 refine wp_cond_false (by exact E4_5) ?_
 refine wp_skip ?_
 refine K15 _ _ ?_
 refine gd1 9 (Amb Z0 W) 7 B4 fun _ K17=>?_
 refine .e rfl (fun H=>x_ldr (H.z 6 E2_5) (H.b1 B10 N4_10)) ?_
 refine .cR rfl [] Tryz.func143 (fun H=>⟨_,ar1 (H.g 27 0),iOver c (RingP.mk (H.was _ [] (VP.at F6 L6)) (H.was _ [] F_x7) (H.was _ [] F_x8) (H.was _ [] (VP.at F9 L9))) (by first | omega | assumption)⟩) ?_
 refine .e rfl (fun H=>x_ldr (H.z 8 E3_5) (H.b1 B14 N4_14)) ?_
 refine .cR rfl [1] Tryz.func157 (fun H=>⟨_,ar2 (H.r 28 1) (H.g 29 2),mtSend c.over (Pn.mk false z) (SV.sub [1] (H.a 1 rfl) rfl) (PlaceP.mk (H.was _ [1] F_x12) (H.was _ [1] F_x13)) (by first | omega | assumption)⟩) ?_
 refine .cK rfl Tryz.func158 (fun H=>⟨_,ar1 (H.r 30 3),plTold (c.over.send (Pn.mk false z)) (SV.any (H.a 3 rfl)) (by first | omega | assumption)⟩) ?_
 refine .e rfl (V:=rpnV (pncut (c.over.send (Pn.mk false z)))) (fun H=>x_ex (H.g 31 4)) ?_
 refine .e rfl (V:=.int .i64 (pnerr (c.over.send (Pn.mk false z)))) (fun H=>x_ex (H.g 31 4)) ?_
 refine .s1 rfl B4 (fun H=>⟨H.z 4 E1_2,H.g 32 5⟩) ?_
 refine .mv rfl 6 ?_
 refine .d1 (fun u=>ciV c::pnV (Pn.mk false z)::sq u1 0 3 (u 8::u2 5::u2 7::u3 5::u3 7::u2 2::u2 0::u2 1::u2 3::u2 4::u3 2::u3 0::u3 1::u3 3::u3 4::sq u4 0 6 (U::sq u 0 7 []))) K17 bel A4 fun u5 w5 D bel=>?_
 have E5_8:=D.q 8
 replace B4:=D.ol 7
 clear D
 refine wp_ret ?_
 refine ret_ok rfl (by exact results_mix rfl (by exact E1_2) B4 Tryz.underlying56 rfl (by kernel_rfl) (by exact E5_8)) (RetV.mk ?_ bel)
 exact congrArg Ending.returned (rfl)
end Go.Proofs.YtcpjdjnaipbieaaGreat
namespace Go.Proofs.YtcpjdjnaipbieaaGreat
open Go.RowKit Rgn
abbrev lineM:Mb:=⟨Cx.ofInt (1:Int) (0:Int),Cx.ofInt (0:Int) (0:Int),Cx.ofInt (0:Int) (0:Int),Cx.ofInt (1:Int) (0:Int),true⟩
theorem fits_c {q:Rat} (h:ht q = 2):fits (rf q) = true:=fits_ht (by omega)
theorem gfits_c {a b:Int} (h1:ht (a:Rat) = 2) (h2:ht (b:Rat) = 2):gfits (rg (Cx.ofInt a b)) = true:=gfits_ht (z:=Cx.ofInt a b) ⟨by show ht (a:Rat) ≤ _; omega,by show ht (b:Rat) ≤ _; omega⟩
theorem ht_c0:ht ((0:Int):Rat) = 2:=by decide
theorem ht_c1:ht ((1:Int):Rat) = 2:=by decide
theorem ht_cm:ht ((-1:Int):Rat) = 2:=by decide
theorem unitFits:cifits (rci unitK) = true:=by
 show (fits (rf ((1:Int):Rat)) && gfits (rg (Cx.ofInt (0:Int) (0:Int))) && fits (rf ((-1:Int):Rat))) = true
 rw [fits_c ht_c1,fits_c ht_cm,gfits_c ht_c0 ht_c0]; rfl
theorem lineFits:cifits (rci lineK) = true:=by
 show (fits (rf ((0:Int):Rat)) && gfits (rg (Cx.ofInt (0:Int) (1:Int))) && fits (rf ((0:Int):Rat))) = true
 rw [fits_c ht_c0,gfits_c ht_c0 ht_c1]; rfl
theorem lineMFits:mbfits (rmb lineM) = true:=by
 show (gfits (rg (Cx.ofInt (1:Int) (0:Int))) && gfits (rg (Cx.ofInt (0:Int) (0:Int))) && gfits (rg (Cx.ofInt (0:Int) (0:Int))) && gfits (rg (Cx.ofInt (1:Int) (0:Int)))) = true
 rw [gfits_c ht_c1 ht_c0,gfits_c ht_c0 ht_c0]; rfl
theorem unitOk:ciOk (rci unitK) = true:=ciOk_yes unitFits (by decide +kernel) (by decide +kernel)
theorem lineOk:ciOk (rci lineK) = true:=ciOk_yes lineFits (by decide +kernel) (by decide +kernel)
theorem lineMOk:mbOk (rmb lineM) = true:=mbOk_yes lineMFits (by decide +kernel) (by decide +kernel)
theorem line_over:lineK.over.nrm = lineM:=by decide +kernel
theorem line_is:lineM.isOk = true:=by decide +kernel
theorem line_k:lineM.isK.nrm = lineK:=by decide +kernel
theorem unit_send:(unitK.over.send ⟨false,Cx.ofInt (0:Int) (0:Int)⟩).inf = true:=by decide +kernel
theorem unit_line:((unitK.dot lineK).num.sign == 0) = true:=by decide +kernel
theorem line_R:lineM.isR = rci lineK:=by unfold Mb.isR; rw [if_pos line_is,line_k]; unfold cicut; rw [if_pos lineFits]
theorem line_E:lineM.isE = 0:=by unfold Mb.isE; rw [if_pos line_is,line_k]; unfold cierr; rw [if_pos lineFits]
theorem line_M:mbcut lineK.over.nrm = rmb lineM:=by rw [line_over]; unfold mbcut; rw [if_pos lineMFits]
theorem line_e:mberr lineK.over.nrm = 0:=by rw [line_over]; unfold mberr; rw [if_pos lineMFits]
abbrev rpnI:RPn:=⟨true,rz⟩
section
variable {W:World}
theorem wkPt (c:Ci) (z:Cx) (p0:c = unitK) (p1:z = Cx.ofInt (0:Int) (0:Int)) :
  Calls Tryz.prog 32 #[ciV c,pnV (Pn.mk false z)] W (RetV (.tuple #[rpnV rpnI,.int .i64 0]) W):=by
 subst p0; subst p1
 exact reV (pcut_inf unit_send).symm (ivPtZ unitK (Cx.ofInt (0:Int) (0:Int)) unitOk (gfits_c ht_c0 ht_c0))
theorem wkOver (c:Ci) (p0:c = lineK) :
  Calls Tryz.prog 31 #[ciV c] W (RetV (.tuple #[mbV lineM,.int .i64 0]) W):=by
 subst p0
 exact reV (show Value.tuple #[rmbV (mbcut lineK.over.nrm),.int .i64 (mberr lineK.over.nrm)] = .tuple #[rmbV (rmb lineM),.int .i64 0] by rw [line_M,line_e]) (ivOvO lineK lineOk)
theorem wkRt (x:Ci) (y:Ci) (p0:x = unitK) (p1:y = lineK) :
  Calls Tryz.prog 34 #[ciV x,ciV y] W (RetV (.tuple #[.bool true,.int .i64 0]) W):=by
 subst p0; subst p1
 exact reV (show Value.tuple #[.bool ((unitK.dot lineK).num.sign == 0),.int .i64 0] = .tuple #[.bool true,.int .i64 0] by rw [unit_line]) (ivRtY unitK lineK unitOk lineOk)
theorem wkIs (m:Mb) (p0:m = lineM) :
  Calls Tryz.prog 25 #[mbV m] W (RetV (.tuple #[ciV lineK,.int .i64 0]) W):=by
 subst p0
 exact reV (show Value.tuple #[rciV lineM.isR,.int .i64 lineM.isE] = .tuple #[rciV (rci lineK),.int .i64 0] by rw [line_R,line_E]) (ivIs lineM lineMOk)
end
end Go.Proofs.YtcpjdjnaipbieaaGreat
namespace Go.Proofs.YtcpjdjnaipbieaaGreat
open Go.RowKit Rgn
set_option maxHeartbeats 4000000
set_option maxRecDepth 100000
variable {S:Nat → Prop} {W:World}
theorem l14works :
  Calls Tryz.prog 24 #[] W (RetV (.bool true) W):=by
 have bel:=b0 W
 go_enter Tryz.func24,Tryz.ntmps24
 refine gs 1 (Amb Z0 W) fun _ K1=>?_
 refine .mc rfl ?_
 refine .dk (fun u=>u 0::us 71) K1 bel fun u1 w1 D bel=>?_
 have E1_0:=D.q 0
 clear D
 refine gs 10 (Amb Z0 W) fun _ K2=>?_
 refine .cK rfl Tryz.func55 (fun H=>⟨_,ar0,l14Unit⟩) ?_
 refine .cK rfl Tryz.func130 (fun H=>⟨_,ar2 (H.c (.int .i64 0)) (H.c (.int .i64 0)),cInt _ _ (by first | omega | rfl) (by first | omega | rfl) (by first | omega | rfl) (by first | omega | rfl)⟩) ?_
 refine .e rfl (V:=pnV (Pn.mk false (Cx.ofInt (0:Int) (0:Int)))) (fun H=>by have e11:=H.g 11 1; clear H; go_simp) ?_
 refine .cK rfl Tryz.func32 (fun H=>⟨_,ar2 (H.g 10 0) (H.g 12 2),wkPt _ (Cx.ofInt (0:Int) (0:Int)) (by first | omega | rfl) (by first | omega | rfl)⟩) ?_
 refine .mv rfl 3 ?_
 refine .e rfl (V:=rpnV rpnI) (fun H=>x_ex (H.g 9 4)) ?_
 refine .e rfl (V:=.int .i64 0) (fun H=>x_ex (H.g 9 4)) ?_
 refine .al rfl zPn ?_
 refine .so rfl 7 (fun H=>⟨H.r 1 7,H.g 14 5⟩) ?_
 refine .mv rfl 6 ?_
 refine .dk (fun u=>u1 0::u 7::u 9::U::U::U::U::U::U::u 4::sq u 0 4 (u 5::u 6::us 56)) K2 bel fun u2 w2 D bel=>?_
 obtain ⟨b3,E2_7,A3,B3⟩:=D.st 8
 have E2_9:=D.q 9
 clear D
 refine gs 8 (Amb Z0 W) fun _ K4=>?_
 refine .cK rfl Tryz.func58 (fun H=>⟨_,ar0,l14Line⟩) ?_
 refine .cK rfl Tryz.func31 (fun H=>⟨_,ar1 (H.g 17 0),wkOver _ (by first | omega | rfl)⟩) ?_
 refine .mv rfl 1 ?_
 refine .e rfl (V:=mbV lineM) (fun H=>x_ex (H.g 16 2)) ?_
 refine .e rfl (V:=.int .i64 0) (fun H=>x_ex (H.g 16 2)) ?_
 refine .al rfl zMb ?_
 refine .so rfl 5 (fun H=>⟨H.r 3 5,H.g 19 3⟩) ?_
 refine .mv rfl 4 ?_
 refine .dk (fun u=>u1 0::u2 7::u2 9::u 5::u 7::U::U::U::U::u2 4::sq u2 0 4 (u2 5::u2 6::u 2::u 0::u 1::u 3::u 4::us 51)) K4 bel fun u3 w3 D bel=>?_
 obtain ⟨b5,E3_5,A5,B5⟩:=D.st 6
 have E3_7:=D.q 7
 replace B3:=D.k B3
 clear D
 refine gs 8 (Amb Z0 W) fun _ K6=>?_
 refine .cK rfl Tryz.func55 (fun H=>⟨_,ar0,l14Unit⟩) ?_
 refine .cK rfl Tryz.func58 (fun H=>⟨_,ar0,l14Line⟩) ?_
 refine .cK rfl Tryz.func34 (fun H=>⟨_,ar2 (H.g 22 0) (H.g 23 1),wkRt _ _ (by first | omega | rfl) (by first | omega | rfl)⟩) ?_
 refine .mv rfl 2 ?_
 refine .e rfl (V:=.bool true) (fun H=>x_ex (H.g 21 3)) ?_
 refine .e rfl (V:=.int .i64 0) (fun H=>x_ex (H.g 21 3)) ?_
 refine .mv rfl 4 ?_
 refine .mv rfl 5 ?_
 refine .dk (fun u=>u1 0::u2 7::u2 9::u3 5::u3 7::u 6::u 7::U::U::u2 4::sq u2 0 4 (u2 5::u2 6::u3 2::u3 0::u3 1::u3 3::u3 4::u 3::sq u 0 3 (u 4::u 5::us 45))) K6 bel fun u4 w4 D bel=>?_
 have E4_6:=D.q 6
 have E4_7:=D.q 7
 replace B3:=D.k B3
 replace B5:=D.k B5
 clear D
 refine gs 8 (Amb Z0 W) fun _ K7=>?_
 refine .lr rfl 3 E3_5 B5 ?_
 refine .cK rfl Tryz.func25 (fun H=>⟨_,ar1 (H.g 28 0),wkIs _ (by first | omega | rfl)⟩) ?_
 refine .mv rfl 1 ?_
 refine .e rfl (V:=ciV lineK) (fun H=>x_ex (H.g 27 2)) ?_
 refine .e rfl (V:=.int .i64 0) (fun H=>x_ex (H.g 27 2)) ?_
 refine .al rfl zCi ?_
 refine .so rfl 5 (fun H=>⟨H.r 7 5,H.g 30 3⟩) ?_
 refine .mv rfl 4 ?_
 refine .dk (fun u=>u1 0::u2 7::u2 9::u3 5::u3 7::u4 6::u4 7::u 5::u 7::u2 4::sq u2 0 4 (u2 5::u2 6::u3 2::u3 0::u3 1::u3 3::u3 4::u4 3::sq u4 0 3 (u4 4::u4 5::u 2::u 0::u 1::u 3::u 4::us 40))) K7 bel fun u5 w5 D bel=>?_
 obtain ⟨b8,E5_5,A8,B8⟩:=D.st 6
 have E5_7:=D.q 7
 replace B3:=D.k B3
 replace B5:=D.k B5
 clear D
 refine gd 41 (Amb Z0 W) fun _ K9=>?_
 refine .mz rfl 2 E2_9 ?_
 refine .cK rfl Tryz.func27 (fun H=>⟨_,ar1 (H.g 32 0),l14Num _⟩) ?_
 refine .e rfl (V:=.bool true) (fun H=>x_cm (H.g 33 1) (H.c _) (beq_self_eq_true (0:Int))) ?_
 refine .mv rfl 2 ?_
 refine .lr rfl 1 E2_7 B3 ?_ (hg:=gq 3 rfl)
 refine .e rfl (V:=rpnV (RPn.mk true rz)) (fun H=>by have k0:=H.c (.bool true); clear H; go_simp) ?_ (hg:=gq 3 rfl)
 refine .e rfl (V:=.bool true) (fun H=>ex_eql_pn (r:=rpnI) (q:=RPn.mk true rz) _ _ rfl (H.g 36 4) (H.g 37 5) (rfl.trans (decide_eq_true rfl))) ?_ (hg:=gq 3 rfl)
 refine .e rfl (fun H=>x_pkT (H.g 35 3) (H.g 38 6)) ?_
 refine .mv rfl 7 ?_
 refine .mz rfl 4 E3_7 ?_ (hg:=gq 8 rfl)
 refine .cK rfl Tryz.func27 (fun H=>⟨_,ar1 (H.g 41 9),l14Num _⟩) ?_ (hg:=gq 8 rfl)
 refine .e rfl (V:=.bool true) (fun H=>x_cm (H.g 42 10) (H.c _) (beq_self_eq_true (0:Int))) ?_ (hg:=gq 8 rfl)
 refine .e rfl (fun H=>x_pkT (H.g 40 8) (H.g 43 11)) ?_
 refine .mv rfl 12 ?_
 refine .lr rfl 3 E3_5 B5 ?_ (hg:=gq 13 rfl)
 refine .cK rfl Tryz.func130 (fun H=>⟨_,ar2 (H.c (.int .i64 1)) (H.c (.int .i64 0)),cInt _ _ (by first | omega | rfl) (by first | omega | rfl) (by first | omega | rfl) (by first | omega | rfl)⟩) ?_ (hg:=gq 13 rfl)
 refine .cK rfl Tryz.func130 (fun H=>⟨_,ar2 (H.c (.int .i64 0)) (H.c (.int .i64 0)),cInt _ _ (by first | omega | rfl) (by first | omega | rfl) (by first | omega | rfl) (by first | omega | rfl)⟩) ?_ (hg:=gq 13 rfl)
 refine .cK rfl Tryz.func130 (fun H=>⟨_,ar2 (H.c (.int .i64 0)) (H.c (.int .i64 0)),cInt _ _ (by first | omega | rfl) (by first | omega | rfl) (by first | omega | rfl) (by first | omega | rfl)⟩) ?_ (hg:=gq 13 rfl)
 refine .cK rfl Tryz.func130 (fun H=>⟨_,ar2 (H.c (.int .i64 1)) (H.c (.int .i64 0)),cInt _ _ (by first | omega | rfl) (by first | omega | rfl) (by first | omega | rfl) (by first | omega | rfl)⟩) ?_ (hg:=gq 13 rfl)
 refine .e rfl (V:=mbV (Mb.mk (Cx.ofInt (1:Int) (0:Int)) (Cx.ofInt (0:Int) (0:Int)) (Cx.ofInt (0:Int) (0:Int)) (Cx.ofInt (1:Int) (0:Int)) true)) (fun H=>by have e47:=H.g 47 15; have e48:=H.g 48 16; have e49:=H.g 49 17; have e50:=H.g 50 18; have k4:=H.c (.bool true); clear H; go_simp) ?_ (hg:=gq 13 rfl)
 refine .e rfl (V:=.bool true) (fun H=>ex_eql_mb (r:=rmb lineM) (q:=rmb (Mb.mk (Cx.ofInt (1:Int) (0:Int)) (Cx.ofInt (0:Int) (0:Int)) (Cx.ofInt (0:Int) (0:Int)) (Cx.ofInt (1:Int) (0:Int)) true)) _ _ rfl (H.g 46 14) (H.g 51 19) ((rmb_dec lineM (Mb.mk (Cx.ofInt (1:Int) (0:Int)) (Cx.ofInt (0:Int) (0:Int)) (Cx.ofInt (0:Int) (0:Int)) (Cx.ofInt (1:Int) (0:Int)) true)).trans (decide_eq_true rfl))) ?_ (hg:=gq 13 rfl)
 refine .e rfl (fun H=>x_pkT (H.g 45 13) (H.g 52 20)) ?_
 refine .mv rfl 21 ?_
 refine .mz rfl 5 E4_6 ?_ (hg:=gq 22 rfl)
 refine .e rfl (fun H=>x_pkT (H.g 54 22) (H.g 55 23)) ?_
 refine .mv rfl 24 ?_
 refine .mz rfl 6 E4_7 ?_ (hg:=gq 25 rfl)
 refine .cK rfl Tryz.func27 (fun H=>⟨_,ar1 (H.g 58 26),l14Num _⟩) ?_ (hg:=gq 25 rfl)
 refine .e rfl (V:=.bool true) (fun H=>x_cm (H.g 59 27) (H.c _) (beq_self_eq_true (0:Int))) ?_ (hg:=gq 25 rfl)
 refine .e rfl (fun H=>x_pkT (H.g 57 25) (H.g 60 28)) ?_
 refine .mv rfl 29 ?_
 refine .lr rfl 7 E5_5 B8 ?_ (hg:=gq 30 rfl)
 refine .cK rfl Tryz.func58 (fun H=>⟨_,ar0,l14Line⟩) ?_ (hg:=gq 30 rfl)
 refine .e rfl (V:=.bool true) (fun H=>ex_eql_ci (r:=rci lineK) (q:=rci lineK) _ _ rfl (H.g 63 31) (H.g 64 32) ((rci_dec lineK lineK).trans (decide_eq_true rfl))) ?_ (hg:=gq 30 rfl)
 refine .e rfl (fun H=>x_pkT (H.g 62 30) (H.g 65 33)) ?_
 refine .mv rfl 34 ?_
 refine .mz rfl 8 E5_7 ?_ (hg:=gq 35 rfl)
 refine .cK rfl Tryz.func27 (fun H=>⟨_,ar1 (H.g 68 36),l14Num _⟩) ?_ (hg:=gq 35 rfl)
 refine .e rfl (V:=.bool true) (fun H=>x_cm (H.g 69 37) (H.c _) (beq_self_eq_true (0:Int))) ?_ (hg:=gq 35 rfl)
 refine .e rfl (fun H=>x_pkT (H.g 67 35) (H.g 70 38)) ?_
 refine .mv rfl 39 ?_
 refine .dk (fun u=>u 40::u2 7::u2 9::u3 5::u3 7::u4 6::u4 7::u5 5::u5 7::u2 4::sq u2 0 4 (u2 5::u2 6::u3 2::u3 0::u3 1::u3 3::u3 4::u4 3::sq u4 0 3 (u4 4::u4 5::u5 2::u5 0::u5 1::u5 3::u5 4::sq u 0 40 []))) K9 bel fun u6 w6 D bel=>?_
 have E6_40:=D.q 40
 clear D
 exact wp_ret (rt rfl E6_40 rfl bel)
end Go.Proofs.YtcpjdjnaipbieaaGreat
namespace Go.Proofs.YtcpjdjnaipbieaaGreat
open Go.RowKit Rgn Eng
set_option maxHeartbeats 8000000
set_option maxRecDepth 100000
variable {S:Nat → Prop} {W:World}
theorem r14Is (m:Mb) (p0:mbOk (rmb m) = true) :
  Calls Tryz.prog 28 #[mbV m] W (RetV (.tuple #[.agg #[.bool m.isW.a.a.n,.string m.isW.a.a.s,.bool m.isW.a.b.n,.string m.isW.a.b.s,.bool m.isW.b.re.a.n,.string m.isW.b.re.a.s,.bool m.isW.b.re.b.n,.string m.isW.b.re.b.s,.bool m.isW.b.im.a.n,.string m.isW.b.im.a.s,.bool m.isW.b.im.b.n,.string m.isW.b.im.b.s,.bool m.isW.c.a.n,.string m.isW.c.a.s,.bool m.isW.c.b.n,.string m.isW.c.b.s],.bool m.isOk]) W):=by
 have f:=mbfits_ht (mbOk_c p0).1
 have o1:ht (Cx.ofInt (1:Int) (0:Int)).re = 2:=by decide
 have o2:ht (Cx.ofInt (1:Int) (0:Int)).im = 2:=by decide
 have o3:ht (Cx.ofInt (0:Int) (1:Int)).re = 2:=by decide
 have o4:ht (Cx.ofInt (0:Int) (1:Int)).im = 2:=by decide
 have o5:=ht_one
 have o6:ht ((0:Int):Rat) = 2:=by decide
 have k1:=hc_conj m.a
 have k2:=hc_sub (Cx.ofInt (1:Int) (0:Int)) m.a.conj
 have k3:=hc_neg m.b
 have k31:=hc_mul ((Cx.ofInt (1:Int) (0:Int)).sub m.a.conj) m.b
 have k41:=hc_neg (((Cx.ofInt (1:Int) (0:Int)).sub m.a.conj).mul m.b)
 have k32:=hc_mul (Cx.ofInt (0:Int) (1:Int)) m.b
 have k42:=hc_neg ((Cx.ofInt (0:Int) (1:Int)).mul m.b)
 refine Run.goP (S:=Z0) (Pack.nil.k (mbV m) (mbC m).toList (.s (.agg (ks 0 33)))) Tryz.func28 rfl ?_
 rcases Bool.eq_false_or_eq_true m.t with c | c
 case inr =>
  refine Run.kn c ?_
  exact Run.rV (rs_n (rs_t (by rw [c]; rfl)))
 have c0:(!m.t) = false:=by rw [c]; rfl
 refine Run.kn c ?_
 refine Run.dr ?_
 refine RunD.cV (fC ((1:Int):Rat)).toList (.s (.agg (ks 0 4))) (fun β ℓ w H=>fInt 1 (by decide) (by decide)) ?_
 refine RunD.cV (gC m.b.neg).toList (.s (.agg (ks 0 8))) (fun β ℓ w H=>cNeg m.b) ?_
 refine RunD.en ?_
 refine Run.cV [.bool m.c.zero] kb (fun β ℓ w H=>cZero m.c) ?_
 rcases Bool.eq_false_or_eq_true m.c.zero with c1 | c1
 · refine Run.kn c1 ?_
   refine Run.cV (fC ((0:Int):Rat)).toList (.s (.agg (ks 0 4))) (fun β ℓ w H=>fInt 0 (by decide) (by decide)) ?_
   refine Run.dr ?_
   refine RunD.cV (gC (Cx.ofInt (1:Int) (0:Int))).toList (.s (.agg (ks 0 8))) (fun β ℓ w H=>cInt 1 0 (by decide) (by decide) (by decide) (by decide)) ?_
   refine RunD.cV (gC m.a.conj).toList (.s (.agg (ks 0 8))) (fun β ℓ w H=>cConj m.a) ?_
   refine RunD.cV (gC ((Cx.ofInt (1:Int) (0:Int)).sub m.a.conj)).toList (.s (.agg (ks 0 8))) (fun β ℓ w H=>cMinus (Cx.ofInt (1:Int) (0:Int)) m.a.conj (by first | omega | (dsimp only at *; omega))) ?_
   refine RunD.en ?_
   refine Run.cV [.bool ((Cx.ofInt (1:Int) (0:Int)).sub m.a.conj).zero] kb (fun β ℓ w H=>cZero ((Cx.ofInt (1:Int) (0:Int)).sub m.a.conj)) ?_
   rcases Bool.eq_false_or_eq_true ((Cx.ofInt (1:Int) (0:Int)).sub m.a.conj).zero with c2 | c2
   · refine Run.kn c2 ?_
     refine Run.cV (gC (Cx.ofInt (0:Int) (1:Int))).toList (.s (.agg (ks 0 8))) (fun β ℓ w H=>cInt 0 1 (by decide) (by decide) (by decide) (by decide)) ?_
     refine Run.cV (gC ((Cx.ofInt (0:Int) (1:Int)).mul m.b)).toList (.s (.agg (ks 0 8))) (fun β ℓ w H=>cTimes (Cx.ofInt (0:Int) (1:Int)) m.b (by first | omega | (dsimp only at *; omega))) ?_
     refine Run.cV (gC ((Cx.ofInt (0:Int) (1:Int)).mul m.b).neg).toList (.s (.agg (ks 0 8))) (fun β ℓ w H=>cNeg ((Cx.ofInt (0:Int) (1:Int)).mul m.b)) ?_
     refine Run.cV [.int .i64 ((Cx.ofInt (0:Int) (1:Int)).mul m.b).neg.im.num.sign] kb (fun β ℓ w H=>fSign ((Cx.ofInt (0:Int) (1:Int)).mul m.b).neg.im) ?_
     refine Run.ic ((Cx.ofInt (0:Int) (1:Int)).mul m.b).neg.im.num.sign 0 (((Cx.ofInt (0:Int) (1:Int)).mul m.b).neg.im.num.sign != 0) ?_
     rcases Bool.eq_false_or_eq_true (((Cx.ofInt (0:Int) (1:Int)).mul m.b).neg.im.num.sign != 0) with c3 | c3
     · refine Run.kn c3 ?_
       exact Run.rV (rs_n (ok_i (rs_w2 c1 c2) c3))
     refine Run.kn c3 ?_
     refine Run.cV (fC (Ci.mk ((0:Int):Rat) (Cx.ofInt (0:Int) (1:Int)) ((Cx.ofInt (0:Int) (1:Int)).mul m.b).neg.re).pow).toList (.s (.agg (ks 0 4))) (fun β ℓ w H=>c11Pow (Ci.mk ((0:Int):Rat) (Cx.ofInt (0:Int) (1:Int)) ((Cx.ofInt (0:Int) (1:Int)).mul m.b).neg.re) (by dsimp only at *; omega)) ?_
     refine Run.cV [.int .i64 (Ci.mk ((0:Int):Rat) (Cx.ofInt (0:Int) (1:Int)) ((Cx.ofInt (0:Int) (1:Int)).mul m.b).neg.re).pow.num.sign] kb (fun β ℓ w H=>fSign (Ci.mk ((0:Int):Rat) (Cx.ofInt (0:Int) (1:Int)) ((Cx.ofInt (0:Int) (1:Int)).mul m.b).neg.re).pow) ?_
     refine Run.ic (Ci.mk ((0:Int):Rat) (Cx.ofInt (0:Int) (1:Int)) ((Cx.ofInt (0:Int) (1:Int)).mul m.b).neg.re).pow.num.sign 0 (decide ((Ci.mk ((0:Int):Rat) (Cx.ofInt (0:Int) (1:Int)) ((Cx.ofInt (0:Int) (1:Int)).mul m.b).neg.re).pow.num.sign ≤ 0)) ?_
     rcases Bool.eq_false_or_eq_true (decide ((Ci.mk ((0:Int):Rat) (Cx.ofInt (0:Int) (1:Int)) ((Cx.ofInt (0:Int) (1:Int)).mul m.b).neg.re).pow.num.sign ≤ 0)) with c4 | c4
     · refine Run.kn c4 ?_
       exact Run.rV (rs_n (ok_p (rs_w2 c1 c2) c4))
     refine Run.kn c4 ?_
     refine Run.cV (ciC (Ci.mk ((0:Int):Rat) (Cx.ofInt (0:Int) (1:Int)) ((Cx.ofInt (0:Int) (1:Int)).mul m.b).neg.re).nrm).toList (.s (.agg (ks 0 16))) (fun β ℓ w H=>c11Norm ((0:Int):Rat) (Cx.ofInt (0:Int) (1:Int)) ((Cx.ofInt (0:Int) (1:Int)).mul m.b).neg.re (by omega) (pos_flat (pos_of c4))) ?_
     refine Run.dr ?_
     refine RunD.cV (mbC (Ci.mk ((0:Int):Rat) (Cx.ofInt (0:Int) (1:Int)) ((Cx.ofInt (0:Int) (1:Int)).mul m.b).neg.re).nrm.over.nrm).toList (.s (.agg (ks 0 33))) (fun β ℓ w H=>r14Over (Ci.mk ((0:Int):Rat) (Cx.ofInt (0:Int) (1:Int)) ((Cx.ofInt (0:Int) (1:Int)).mul m.b).neg.re).nrm (Nat.le_trans (nrm_le (by dsimp only at *; omega)) (by decide)) (over_piv (pos_nrm (pos_of c4)))) ?_
     refine RunD.bi [.bool (!decide ((Ci.mk ((0:Int):Rat) (Cx.ofInt (0:Int) (1:Int)) ((Cx.ofInt (0:Int) (1:Int)).mul m.b).neg.re).nrm.over.nrm = m))] kb (fun w o ρ x y t' ho hx hy=>ex_neq_mb (r:=rmb (Ci.mk ((0:Int):Rat) (Cx.ofInt (0:Int) (1:Int)) ((Cx.ofInt (0:Int) (1:Int)).mul m.b).neg.re).nrm.over.nrm) (q:=rmb m) x y ho hx hy (rmb_dec (Ci.mk ((0:Int):Rat) (Cx.ofInt (0:Int) (1:Int)) ((Cx.ofInt (0:Int) (1:Int)).mul m.b).neg.re).nrm.over.nrm m)) ?_
     refine RunD.en ?_
     rcases Bool.eq_false_or_eq_true (!decide ((Ci.mk ((0:Int):Rat) (Cx.ofInt (0:Int) (1:Int)) ((Cx.ofInt (0:Int) (1:Int)).mul m.b).neg.re).nrm.over.nrm = m)) with c5 | c5
     · refine Run.kn c5 ?_
       exact Run.rV (rs_n (rs_b (rs_w2 c1 c2) c5))
     refine Run.kn c5 ?_
     exact Run.rV (rs_y (rs_w2 c1 c2) c0 c3 c4 c5)
   · refine Run.kn c2 ?_
     refine Run.cV (gC (((Cx.ofInt (1:Int) (0:Int)).sub m.a.conj).mul m.b)).toList (.s (.agg (ks 0 8))) (fun β ℓ w H=>cTimes ((Cx.ofInt (1:Int) (0:Int)).sub m.a.conj) m.b (by first | omega | (dsimp only at *; omega))) ?_
     refine Run.cV (gC (((Cx.ofInt (1:Int) (0:Int)).sub m.a.conj).mul m.b).neg).toList (.s (.agg (ks 0 8))) (fun β ℓ w H=>cNeg (((Cx.ofInt (1:Int) (0:Int)).sub m.a.conj).mul m.b)) ?_
     refine Run.cV [.int .i64 (((Cx.ofInt (1:Int) (0:Int)).sub m.a.conj).mul m.b).neg.im.num.sign] kb (fun β ℓ w H=>fSign (((Cx.ofInt (1:Int) (0:Int)).sub m.a.conj).mul m.b).neg.im) ?_
     refine Run.ic (((Cx.ofInt (1:Int) (0:Int)).sub m.a.conj).mul m.b).neg.im.num.sign 0 ((((Cx.ofInt (1:Int) (0:Int)).sub m.a.conj).mul m.b).neg.im.num.sign != 0) ?_
     rcases Bool.eq_false_or_eq_true ((((Cx.ofInt (1:Int) (0:Int)).sub m.a.conj).mul m.b).neg.im.num.sign != 0) with c3 | c3
     · refine Run.kn c3 ?_
       exact Run.rV (rs_n (ok_i (rs_w1 c1 c2) c3))
     refine Run.kn c3 ?_
     refine Run.cV (fC (Ci.mk ((0:Int):Rat) ((Cx.ofInt (1:Int) (0:Int)).sub m.a.conj) (((Cx.ofInt (1:Int) (0:Int)).sub m.a.conj).mul m.b).neg.re).pow).toList (.s (.agg (ks 0 4))) (fun β ℓ w H=>c11Pow (Ci.mk ((0:Int):Rat) ((Cx.ofInt (1:Int) (0:Int)).sub m.a.conj) (((Cx.ofInt (1:Int) (0:Int)).sub m.a.conj).mul m.b).neg.re) (by dsimp only at *; omega)) ?_
     refine Run.cV [.int .i64 (Ci.mk ((0:Int):Rat) ((Cx.ofInt (1:Int) (0:Int)).sub m.a.conj) (((Cx.ofInt (1:Int) (0:Int)).sub m.a.conj).mul m.b).neg.re).pow.num.sign] kb (fun β ℓ w H=>fSign (Ci.mk ((0:Int):Rat) ((Cx.ofInt (1:Int) (0:Int)).sub m.a.conj) (((Cx.ofInt (1:Int) (0:Int)).sub m.a.conj).mul m.b).neg.re).pow) ?_
     refine Run.ic (Ci.mk ((0:Int):Rat) ((Cx.ofInt (1:Int) (0:Int)).sub m.a.conj) (((Cx.ofInt (1:Int) (0:Int)).sub m.a.conj).mul m.b).neg.re).pow.num.sign 0 (decide ((Ci.mk ((0:Int):Rat) ((Cx.ofInt (1:Int) (0:Int)).sub m.a.conj) (((Cx.ofInt (1:Int) (0:Int)).sub m.a.conj).mul m.b).neg.re).pow.num.sign ≤ 0)) ?_
     rcases Bool.eq_false_or_eq_true (decide ((Ci.mk ((0:Int):Rat) ((Cx.ofInt (1:Int) (0:Int)).sub m.a.conj) (((Cx.ofInt (1:Int) (0:Int)).sub m.a.conj).mul m.b).neg.re).pow.num.sign ≤ 0)) with c4 | c4
     · refine Run.kn c4 ?_
       exact Run.rV (rs_n (ok_p (rs_w1 c1 c2) c4))
     refine Run.kn c4 ?_
     refine Run.cV (ciC (Ci.mk ((0:Int):Rat) ((Cx.ofInt (1:Int) (0:Int)).sub m.a.conj) (((Cx.ofInt (1:Int) (0:Int)).sub m.a.conj).mul m.b).neg.re).nrm).toList (.s (.agg (ks 0 16))) (fun β ℓ w H=>c11Norm ((0:Int):Rat) ((Cx.ofInt (1:Int) (0:Int)).sub m.a.conj) (((Cx.ofInt (1:Int) (0:Int)).sub m.a.conj).mul m.b).neg.re (by omega) (pos_flat (pos_of c4))) ?_
     refine Run.dr ?_
     refine RunD.cV (mbC (Ci.mk ((0:Int):Rat) ((Cx.ofInt (1:Int) (0:Int)).sub m.a.conj) (((Cx.ofInt (1:Int) (0:Int)).sub m.a.conj).mul m.b).neg.re).nrm.over.nrm).toList (.s (.agg (ks 0 33))) (fun β ℓ w H=>r14Over (Ci.mk ((0:Int):Rat) ((Cx.ofInt (1:Int) (0:Int)).sub m.a.conj) (((Cx.ofInt (1:Int) (0:Int)).sub m.a.conj).mul m.b).neg.re).nrm (Nat.le_trans (nrm_le (by dsimp only at *; omega)) (by decide)) (over_piv (pos_nrm (pos_of c4)))) ?_
     refine RunD.bi [.bool (!decide ((Ci.mk ((0:Int):Rat) ((Cx.ofInt (1:Int) (0:Int)).sub m.a.conj) (((Cx.ofInt (1:Int) (0:Int)).sub m.a.conj).mul m.b).neg.re).nrm.over.nrm = m))] kb (fun w o ρ x y t' ho hx hy=>ex_neq_mb (r:=rmb (Ci.mk ((0:Int):Rat) ((Cx.ofInt (1:Int) (0:Int)).sub m.a.conj) (((Cx.ofInt (1:Int) (0:Int)).sub m.a.conj).mul m.b).neg.re).nrm.over.nrm) (q:=rmb m) x y ho hx hy (rmb_dec (Ci.mk ((0:Int):Rat) ((Cx.ofInt (1:Int) (0:Int)).sub m.a.conj) (((Cx.ofInt (1:Int) (0:Int)).sub m.a.conj).mul m.b).neg.re).nrm.over.nrm m)) ?_
     refine RunD.en ?_
     rcases Bool.eq_false_or_eq_true (!decide ((Ci.mk ((0:Int):Rat) ((Cx.ofInt (1:Int) (0:Int)).sub m.a.conj) (((Cx.ofInt (1:Int) (0:Int)).sub m.a.conj).mul m.b).neg.re).nrm.over.nrm = m)) with c5 | c5
     · refine Run.kn c5 ?_
       exact Run.rV (rs_n (rs_b (rs_w1 c1 c2) c5))
     refine Run.kn c5 ?_
     exact Run.rV (rs_y (rs_w1 c1 c2) c0 c3 c4 c5)
 · refine Run.kn c1 ?_
   refine Run.cV [.int .i64 m.b.neg.im.num.sign] kb (fun β ℓ w H=>fSign m.b.neg.im) ?_
   refine Run.ic m.b.neg.im.num.sign 0 (m.b.neg.im.num.sign != 0) ?_
   rcases Bool.eq_false_or_eq_true (m.b.neg.im.num.sign != 0) with c3 | c3
   · refine Run.kn c3 ?_
     exact Run.rV (rs_n (ok_i (rs_w0 c1) c3))
   refine Run.kn c3 ?_
   refine Run.cV (fC (Ci.mk ((1:Int):Rat) m.d m.b.neg.re).pow).toList (.s (.agg (ks 0 4))) (fun β ℓ w H=>c11Pow (Ci.mk ((1:Int):Rat) m.d m.b.neg.re) (by dsimp only at *; omega)) ?_
   refine Run.cV [.int .i64 (Ci.mk ((1:Int):Rat) m.d m.b.neg.re).pow.num.sign] kb (fun β ℓ w H=>fSign (Ci.mk ((1:Int):Rat) m.d m.b.neg.re).pow) ?_
   refine Run.ic (Ci.mk ((1:Int):Rat) m.d m.b.neg.re).pow.num.sign 0 (decide ((Ci.mk ((1:Int):Rat) m.d m.b.neg.re).pow.num.sign ≤ 0)) ?_
   rcases Bool.eq_false_or_eq_true (decide ((Ci.mk ((1:Int):Rat) m.d m.b.neg.re).pow.num.sign ≤ 0)) with c4 | c4
   · refine Run.kn c4 ?_
     exact Run.rV (rs_n (ok_p (rs_w0 c1) c4))
   refine Run.kn c4 ?_
   refine Run.cV (ciC (Ci.mk ((1:Int):Rat) m.d m.b.neg.re).nrm).toList (.s (.agg (ks 0 16))) (fun β ℓ w H=>c11Norm ((1:Int):Rat) m.d m.b.neg.re (by omega) (pos_flat (pos_of c4))) ?_
   refine Run.dr ?_
   refine RunD.cV (mbC (Ci.mk ((1:Int):Rat) m.d m.b.neg.re).nrm.over.nrm).toList (.s (.agg (ks 0 33))) (fun β ℓ w H=>r14Over (Ci.mk ((1:Int):Rat) m.d m.b.neg.re).nrm (Nat.le_trans (nrm_le (by dsimp only at *; omega)) (by decide)) (over_piv (pos_nrm (pos_of c4)))) ?_
   refine RunD.bi [.bool (!decide ((Ci.mk ((1:Int):Rat) m.d m.b.neg.re).nrm.over.nrm = m))] kb (fun w o ρ x y t' ho hx hy=>ex_neq_mb (r:=rmb (Ci.mk ((1:Int):Rat) m.d m.b.neg.re).nrm.over.nrm) (q:=rmb m) x y ho hx hy (rmb_dec (Ci.mk ((1:Int):Rat) m.d m.b.neg.re).nrm.over.nrm m)) ?_
   refine RunD.en ?_
   rcases Bool.eq_false_or_eq_true (!decide ((Ci.mk ((1:Int):Rat) m.d m.b.neg.re).nrm.over.nrm = m)) with c5 | c5
   · refine Run.kn c5 ?_
     exact Run.rV (rs_n (rs_b (rs_w0 c1) c5))
   refine Run.kn c5 ?_
   exact Run.rV (rs_y (rs_w0 c1) c0 c3 c4 c5)
end Go.Proofs.YtcpjdjnaipbieaaGreat
namespace Go.Proofs.YtcpjdjnaipbieaaGreat
open Go.RowKit Rgn
theorem is_R0 {m:Mb} (h:m.isOk = false):decide (m.isR = rzCi) = true:=by
 have h' : ¬ m.isOk = true:=by rw [h]; decide
 unfold Mb.isR; rw [if_neg h']; exact decide_eq_true rfl
theorem is_E0 {m:Mb} (h:m.isOk = false):(m.isE == 7) = true:=by
 have h' : ¬ m.isOk = true:=by rw [h]; decide
 unfold Mb.isE; rw [if_neg h']; rfl
theorem is_C1 {m:Mb} (h:m.isOk = true):isCb m.isR m.isE m.isW = true:=by
 unfold Mb.isR Mb.isE Mb.isW
 rw [if_pos h,if_pos h,if_pos h]
 exact isC_ok _
end Go.Proofs.YtcpjdjnaipbieaaGreat
namespace Go.Proofs.YtcpjdjnaipbieaaGreat
open Go.RowKit Rgn Eng
set_option maxHeartbeats 4000000
set_option maxRecDepth 100000
variable {S:Nat → Prop} {W:World}
theorem lIs0 (r:RMb) (p0:(lgG r.a || lgG r.b || lgG r.c || lgG r.d) = true) :
  Calls Tryz.prog 4 #[rmbV r] W (RetV (.bool true) W):=by
 refine Run.goP (S:=Z0) (Pack.nil.k (rmbV r) (rmbC r).toList (.s (.agg (ks 0 33)))) Tryz.func4 rfl ?_
 refine Run.cV [.bool (lgG r.a || lgG r.b || lgG r.c || lgG r.d)] kb (fun β ℓ w H=>l14long r.a r.b r.c r.d (H.b 1)) ?_
 refine Run.kn p0 ?_
 refine Run.cV [] (cb true) (fun β ℓ w H=>l14works) ?_
 exact Run.rV rfl
theorem lIs1 (r:RMb) (p0:(lgG r.a || lgG r.b || lgG r.c || lgG r.d) = false) (p1:mbOk r = false) :
  Calls Tryz.prog 4 #[rmbV r] W (RetV (.bool true) W):=by
 refine Run.goP (S:=Z0) (Pack.nil.k (rmbV r) (rmbC r).toList (.s (.agg (ks 0 33)))) Tryz.func4 rfl ?_
 refine Run.cV [.bool (lgG r.a || lgG r.b || lgG r.c || lgG r.d)] kb (fun β ℓ w H=>l14long r.a r.b r.c r.d (H.b 1)) ?_
 refine Run.kn p0 ?_
 refine Run.cV ((rciC rzCi).toList ++ [.int .i64 2]) (.tup [.agg (ks 0 16),.o (.k 16)]) (fun β ℓ w H=>ivIsN r p1) ?_
 refine Run.cV [] (.s (.o (.c (.int .i64 2)))) (fun β ℓ w H=>m8ChkN r p1) ?_
 refine Run.bi [] (cb true) (fun w o ρ x y t' ho hx hy=>ex_eql_ci (r:=rzCi) (q:=rzCi) x y ho hx hy (decide_eq_true rfl)) ?_
 refine Run.cV [] (.s (.o (.c (.int .i64 2)))) (fun β ℓ w H=>l14Num 2) ?_
 refine Run.cV [] (cb true) (fun β ℓ w H=>l14works) ?_
 exact Run.rV rfl
theorem lIs2 (m:Mb) (p0:(lgG (rg m.a) || lgG (rg m.b) || lgG (rg m.c) || lgG (rg m.d)) = false) (p1:mbOk (rmb m) = true) (p2:m.isOk = false) :
  Calls Tryz.prog 4 #[mbV m] W (RetV (.bool true) W):=by
 refine Run.goP (S:=Z0) (Pack.nil.k (mbV m) (mbC m).toList (.s (.agg (ks 0 33)))) Tryz.func4 rfl ?_
 refine Run.cV [.bool (lgG (rg m.a) || lgG (rg m.b) || lgG (rg m.c) || lgG (rg m.d))] kb (fun β ℓ w H=>l14long (rg m.a) (rg m.b) (rg m.c) (rg m.d) (H.b 1)) ?_
 refine Run.kn p0 ?_
 refine Run.cV ((rciC m.isR).toList ++ [.int .i64 m.isE]) (.tup [.agg (ks 0 16),.o (.k 16)]) (fun β ℓ w H=>ivIs m p1) ?_
 refine Run.cV [] (.s (.o (.c (.int .i64 0)))) (fun β ℓ w H=>m8ChkO m p1) ?_
 refine Run.cV ((rciC m.isW).toList ++ [.bool m.isOk]) (.tup [.agg (ks 0 16),.o (.k 16)]) (fun β ℓ w H=>r14Is m p1) ?_
 refine Run.kn p2 ?_
 refine Run.bi [] (cb true) (fun w o ρ x y t' ho hx hy=>ex_eql_ci (r:=m.isR) (q:=rzCi) x y ho hx hy (is_R0 p2)) ?_
 refine Run.cV [.int .i64 m.isE] kb (fun β ℓ w H=>l14Num m.isE) ?_
 refine Run.ic m.isE 7 (m.isE == 7) ?_
 refine Run.kn (is_E0 p2) ?_
 refine Run.cV [] (cb true) (fun β ℓ w H=>l14works) ?_
 exact Run.rV rfl
theorem lIs3 (m:Mb) (p0:(lgG (rg m.a) || lgG (rg m.b) || lgG (rg m.c) || lgG (rg m.d)) = false) (p1:mbOk (rmb m) = true) (p2:m.isOk = true) :
  Calls Tryz.prog 4 #[mbV m] W (RetV (.bool true) W):=by
 refine Run.goP (S:=Z0) (Pack.nil.k (mbV m) (mbC m).toList (.s (.agg (ks 0 33)))) Tryz.func4 rfl ?_
 refine Run.cV [.bool (lgG (rg m.a) || lgG (rg m.b) || lgG (rg m.c) || lgG (rg m.d))] kb (fun β ℓ w H=>l14long (rg m.a) (rg m.b) (rg m.c) (rg m.d) (H.b 1)) ?_
 refine Run.kn p0 ?_
 refine Run.cV ((rciC m.isR).toList ++ [.int .i64 m.isE]) (.tup [.agg (ks 0 16),.o (.k 16)]) (fun β ℓ w H=>ivIs m p1) ?_
 refine Run.cV [] (.s (.o (.c (.int .i64 0)))) (fun β ℓ w H=>m8ChkO m p1) ?_
 refine Run.cV ((rciC m.isW).toList ++ [.bool m.isOk]) (.tup [.agg (ks 0 16),.o (.k 16)]) (fun β ℓ w H=>r14Is m p1) ?_
 refine Run.kn p2 ?_
 refine Run.cV [] (cb true) (fun β ℓ w H=>l14isC m.isR m.isE m.isW) ?_ (hV:=fun _ _=>congrArg Value.bool (is_C1 p2))
 refine Run.cV [] (cb true) (fun β ℓ w H=>l14works) ?_
 exact Run.rV rfl
end Go.Proofs.YtcpjdjnaipbieaaGreat
namespace Go.Proofs.YtcpjdjnaipbieaaGreat
open Go.ChangeShapes Go.WideShapes Go.ChangeAt Go.RowKit
theorem list2 {cs:List Value} (h:cs.length = 2):∃ a b,cs = [a,b]:=by
 match cs,h with
 | [a,b],_=>exact ⟨a,b,rfl⟩
theorem list4 {cs:List Value} (h:cs.length = 4):∃ a b c d,cs = [a,b,c,d]:=by
 match cs,h with
 | [a,b,c,d],_=>exact ⟨a,b,c,d,rfl⟩
theorem list8 {cs:List Value} (h:cs.length = 8):∃ a b c d e f g i,cs = [a,b,c,d,e,f,g,i]:=by
 match cs,h with
 | [a,b,c,d,e,f,g,i],_=>exact ⟨a,b,c,d,e,f,g,i,rfl⟩
section
variable {H:Type} {enc:TypeId × Value → H} {w:World} {base:Nat} {spare:Nat → Bool} {held:Bool}
theorem rd_whole {fuel:Nat} {cs:List Value} {x:DataW H × List MemPlace} (h:DataW.trod enc Tryz.prog w base spare held fuel 23 cs = some x):∃ r:RW,cs = (rwC r).toList:=by
 obtain ⟨y0,y1,n,_,hl,h0,h1⟩:=trod_struct2 Tryz.underlying23 h
 obtain ⟨b,e0,_⟩:=DataW.trod_bool Tryz.underlying4 h0
 obtain ⟨s,e1,_,_⟩:=DataW.trod_string Tryz.underlying9 h1
 rw [show Tryz.prog.cellsOf 23 = 2 by kernel_rfl] at hl
 rw [show Tryz.prog.cellsOf 4 = 1 by kernel_rfl] at e0
 rw [show Tryz.prog.cellsOf 9 = 1 by kernel_rfl] at e1
 obtain ⟨u,v,rfl⟩:=list2 hl
 simp only [List.drop_zero,List.take_succ_cons,List.take_zero,List.cons.injEq,and_true] at e0
 simp only [List.drop_succ_cons,List.drop_zero,List.take_succ_cons,List.take_zero,List.cons.injEq,and_true] at e1
 subst e0; subst e1
 exact ⟨⟨b,s⟩,rfl⟩
theorem rd_frac {fuel:Nat} {cs:List Value} {x:DataW H × List MemPlace} (h:DataW.trod enc Tryz.prog w base spare held fuel 25 cs = some x):∃ r:RF,cs = (rfC r).toList:=by
 obtain ⟨y0,y1,n,_,hl,h0,h1⟩:=trod_struct2 Tryz.underlying25 h
 obtain ⟨a,e0⟩:=rd_whole h0
 obtain ⟨b,e1⟩:=rd_whole h1
 rw [show Tryz.prog.cellsOf 25 = 4 by kernel_rfl] at hl
 rw [show Tryz.prog.cellsOf 23 = 2 by kernel_rfl] at e0 e1
 obtain ⟨u0,u1,u2,u3,rfl⟩:=list4 hl
 simp only [List.drop_zero,List.drop_succ_cons,List.take_succ_cons,List.take_zero,List.cons.injEq,and_true] at e0 e1
 obtain ⟨rfl,rfl⟩:=e0
 obtain ⟨rfl,rfl⟩:=e1
 exact ⟨⟨a,b⟩,rfl⟩
theorem rd_gauss {fuel:Nat} {cs:List Value} {x:DataW H × List MemPlace} (h:DataW.trod enc Tryz.prog w base spare held fuel 27 cs = some x):∃ r:RG,cs = (rgC r).toList:=by
 obtain ⟨y0,y1,n,_,hl,h0,h1⟩:=trod_struct2 Tryz.underlying27 h
 obtain ⟨a,e0⟩:=rd_frac h0
 obtain ⟨b,e1⟩:=rd_frac h1
 rw [show Tryz.prog.cellsOf 27 = 8 by kernel_rfl] at hl
 rw [show Tryz.prog.cellsOf 25 = 4 by kernel_rfl] at e0 e1
 obtain ⟨u0,u1,u2,u3,u4,u5,u6,u7,rfl⟩:=list8 hl
 simp only [List.drop_zero,List.drop_succ_cons,List.take_succ_cons,List.take_zero,List.cons.injEq,and_true] at e0 e1
 obtain ⟨rfl,rfl,rfl,rfl⟩:=e0
 obtain ⟨rfl,rfl,rfl,rfl⟩:=e1
 exact ⟨⟨a,b⟩,rfl⟩
end
section
variable {H:Type} {enc:TypeId × Value → H} {w:World} {base:Nat} {spare:Nat → Bool} {held:Bool}
theorem trod_struct5 {P:Program} {t:TypeId} {f0 f1 f2 f3 f4:Field} {fuel:Nat} {cs:List Value} {x:DataW H × List MemPlace} (ht:P.underlying t = some (.struct #[f0,f1,f2,f3,f4])) (h:DataW.trod enc P w base spare held fuel t cs = some x) :
  ∃ y0 y1 y2 y3 y4 n,cs.length = P.cellsOf t ∧ DataW.trod enc P w base spare held n f0.type ((cs.drop f0.offset).take (P.cellsOf f0.type)) = some y0 ∧
   DataW.trod enc P w base spare held n f1.type ((cs.drop f1.offset).take (P.cellsOf f1.type)) = some y1 ∧
   DataW.trod enc P w base spare held n f2.type ((cs.drop f2.offset).take (P.cellsOf f2.type)) = some y2 ∧
   DataW.trod enc P w base spare held n f3.type ((cs.drop f3.offset).take (P.cellsOf f3.type)) = some y3 ∧
   DataW.trod enc P w base spare held n f4.type ((cs.drop f4.offset).take (P.cellsOf f4.type)) = some y4:=by
 obtain ⟨xs,n,_,_,hl,hlen,hf⟩:=DataW.trod_struct ht h
 match xs,hlen with
 | [y0,y1,y2,y3,y4],_=>exact ⟨y0,y1,y2,y3,y4,n,hl,by simpa using hf 0 f0 rfl,by simpa using hf 1 f1 rfl,by simpa using hf 2 f2 rfl,by simpa using hf 3 f3 rfl,by simpa using hf 4 f4 rfl⟩
theorem cut5 {α:Type} (cs:List α):cs = (cs.drop 0).take 8 ++ ((cs.drop 8).take 8 ++ ((cs.drop 16).take 8 ++ ((cs.drop 24).take 8 ++ cs.drop 32))):=by
 have h:∀ n k,cs.drop n = (cs.drop n).take k ++ cs.drop (n + k):=fun n k=>by rw [← List.drop_drop]; exact (List.take_append_drop k _).symm
 rw [← h 24 8,← h 16 8,← h 8 8,← h 0 8,List.drop_zero]
theorem rd_mob {fuel:Nat} {cs:List Value} {x:DataW H × List MemPlace} (h:DataW.trod enc Tryz.prog w base spare held fuel 44 cs = some x):∃ r:RMb,cs = (rmbC r).toList:=by
 obtain ⟨y0,y1,y2,y3,y4,n,hl,h0,h1,h2,h3,h4⟩:=trod_struct5 Tryz.underlying44 h
 obtain ⟨a,e0⟩:=rd_gauss h0
 obtain ⟨b,e1⟩:=rd_gauss h1
 obtain ⟨c,e2⟩:=rd_gauss h2
 obtain ⟨d,e3⟩:=rd_gauss h3
 obtain ⟨t,e4,_⟩:=DataW.trod_bool Tryz.underlying4 h4
 rw [show Tryz.prog.cellsOf 44 = 33 by kernel_rfl] at hl
 rw [show Tryz.prog.cellsOf 27 = 8 by kernel_rfl] at e0 e1 e2 e3
 rw [show Tryz.prog.cellsOf 4 = 1 by kernel_rfl] at e4
 refine ⟨⟨a,b,c,d,t⟩,?_⟩
 rw [cut5 cs]
 have e5:cs.drop 32 = [.bool t]:=by
  rw [← e4]
  exact (List.take_of_length_le (by rw [List.length_drop,hl]; decide)).symm
 have e0' : (cs.drop 0).take 8 = _:=e0
 have e1' : (cs.drop 8).take 8 = _:=e1
 have e2' : (cs.drop 16).take 8 = _:=e2
 have e3' : (cs.drop 24).take 8 = _:=e3
 rw [e5,e0', e1', e2', e3']
 rfl
set_option maxRecDepth 100000 in
theorem open_mob {r:Reach} {b0:Nat} {v:Value} {d:DataW H} {p:List MemPlace} (hv:Value.okWide Tryz.prog w r b0 44 v) (h:DataW.Trod enc Tryz.prog w base spare held 44 v d p):∃ r:RMb,v = rmbV r:=by
 obtain ⟨cs,rfl,_⟩:=okWide_struct Tryz.underlying44 hv
 obtain ⟨fuel,hf⟩:=h
 obtain ⟨r,e⟩:=rd_mob hf
 refine ⟨r,?_⟩
 have e2:cs = rmbC r:=Array.ext' e
 rw [e2]
end
end Go.Proofs.YtcpjdjnaipbieaaGreat
namespace Go.Proofs.YtcpjdjnaipbieaaGreat
open Go.ChangeShapes Go.WideShapes Go.ChangeAt Go.RowKit Go.WideElems
theorem law_own:ownKnob Tryz.prog.godebug = none:=by kernel_rfl
theorem law_laid:laidOutB Tryz.prog = true:=by kernel_rfl
section
variable {H:Type} {enc:TypeId × Value → H}
theorem trodAll_stays {W W' : World} {sp:Nat → Bool}:∀ {ts:List TypeId} {vs:List Value} {ds:List (DataW H)} {ps:List MemPlace},(∀ t ∈ ts,Tryz.prog.readableRec t = true ∧ t < Tryz.prog.types.size) →
  DataW.TrodAll enc Tryz.prog W 0 (fun _=>true) true ts vs ds ps → (∀ p ∈ ps,W.sameAt W' p) → (∀ p ∈ ps,sp p.block = true) → DataW.TrodAll enc Tryz.prog W' 0 sp true ts vs ds ps:=by
 intro ts
 induction ts with
 | nil =>
  intro vs ds ps _ h _ _
  obtain ⟨rfl,rfl,rfl⟩:=trodAll_nil h
  exact trodAll_mk0
 | cons t ts ih =>
  intro vs ds ps ht h hs hb
  obtain ⟨v,vs', d,ds', p,p', rfl,rfl,rfl,h0,h1⟩:=trodAll_cons h
  obtain ⟨h2,h3⟩:=ht t (by simp)
  exact trodAll_cons_mk (Trod_stays law_laid h2 h3 h0 (fun q hq=>hs q (by simp [hq])) (fun q hq=>hb q (by simp [hq]))) (ih (fun t ht' => ht t (by simp [ht'])) h1 (fun q hq=>hs q (by simp [hq])) (fun q hq=>hb q (by simp [hq])))
set_option maxRecDepth 100000 in
theorem law_post {f:Func} {s:ChangeSpec} {fresh handsOn again:Bool} {W W' : World} {args:Array Value} {ds gs:List (DataW H)} {before:List MemPlace} (hW:DataW.Whole enc Tryz.prog f.params.toList s.vars false W args.toList ds gs before)
  (hv:s.vars = []) (hfn:s.fn H ds = { results:=[.lit (.bool true)],args:=ds }) (hr:f.resultTypes = #[4]) (hp:f.params.toList.all (fun t=>Tryz.prog.readableRec t && decide (t < Tryz.prog.types.size)) = true) (hb:Below W.heap.size W W') :
  s.post enc Tryz.prog f false fresh handsOn again W args (.bool true) W' := by
 have hlt:∀ p ∈ before,p.block < W.heap.size:=fun p hq=>hW.lt p hq
 have hW' := hW
 obtain ⟨p,q,hA,hV,rfl,hfz,hnd⟩:=hW
 rw [hv] at hV
 obtain ⟨rfl,rfl⟩:=trodVars_none hV
 have hpar:∀ t ∈ f.params.toList,Tryz.prog.readableRec t = true ∧ t < Tryz.prog.types.size:=fun t ht=>by
  have:=List.all_eq_true.1 hp t ht
  simpa using this
 have hargs:∀ sp:Nat → Bool,(∀ x ∈ p ++ [],sp x.block = true) → DataW.TrodAll enc Tryz.prog W' 0 sp true f.params.toList args.toList ds p:=fun sp hs =>
  trodAll_stays hpar hA (fun x hx=>hb.same (hlt x (by simp [hx]))) (fun x hx=>hs x (by simp [hx]))
 have hres:∀ (b:Nat) (sp:Nat → Bool) (hd:Bool),DataW.TrodAll enc Tryz.prog W' b sp hd f.resultTypes.toList (Value.resultList f.resultTypes.size (.bool true)) [.lit (.bool true)] []:=fun _ _ _=>by
  rw [hr]
  exact trodAll_cons_mk (shut_bool Tryz.underlying4 _) trodAll_mk0
 have hold:∀ x ∈ p ++ [],(fun b=>decide (b < W.heap.size)) x.block = true:=fun x hx=>by simpa using hlt x hx
 have hfn' : s.fn H (ds ++ []) = { results:=[.lit (.bool true)],args:=ds }:=by rw [List.append_nil]; exact hfn
 refine ⟨ds,[],p ++ [],[],p,[],hW', by rw [hfn']; exact hres _ _ _,by rw [hfn']; exact hargs _ hold,by rw [hv,hfn']; rfl,World.keptBut_mono (fun x hx=>⟨hx,?_⟩) (hb.frame (· ∈ p ++ [])),fun _=>?_⟩
 ·simpa using hx
 ·refine ⟨ok_one hr rfl (okWide_bool_mk Tryz.underlying4 _),_,[],([] ++ p) ++ [],⟨[] ++ p,[],trodAll_append (hargs _ (fun _ _=>rfl)) (hres _ _ _),by rw [hv]; rfl,rfl,?_,?_⟩,?_⟩
  ·intro b off hx
   have hin:MemPlace.cell b off ∈ p ++ []:=by simpa using hx
   rw [hb.frozen (hlt _ hin)]
   exact hfz b off hin
  ·intro ha
   have:=hnd ha
   simpa using this
  ·intro x hx _
   simpa using hx
end
end Go.Proofs.YtcpjdjnaipbieaaGreat
namespace Go.Proofs.YtcpjdjnaipbieaaGreat.ivIsLaw
open Go.ChangeShapes Go.WideShapes Go.ChangeAt Go.RowKit
theorem lIs {W:World} (r:RMb):Calls Tryz.prog 4 #[rmbV r] W (RetV (.bool true) W):=by
 cases h:(lgG r.a || lgG r.b || lgG r.c || lgG r.d) with
 | true=>exact lIs0 r h
 | false=>cases h1:mbOk r with
  | false=>exact lIs1 r h h1
  | true =>
   obtain ⟨m,rfl,_⟩:=mbOk_ex h1
   cases h2:m.isOk with
   | false=>exact lIs2 m h h1 h2
   | true=>exact lIs3 m h h1 h2
set_option maxRecDepth 100000 in
theorem contract (H:Type) (enc:TypeId × Value → H) (W:World) (base:Nat) (args:Array Value) (ds gs:List (DataW H)) (before:List MemPlace)
  (hval:∀ (j:Nat) t v,Tryz.f4.params[j]? = some t → args[j]? = some v → Value.okWide Tryz.prog W .any base t v)
  (hW:DataW.Whole enc Tryz.prog Tryz.f4.params.toList Rows.invertIsSpec.vars false W args.toList ds gs before) :
  Calls Tryz.prog 4 args W fun e W' => ∃ v,e = .returned v ∧ Rows.invertIsSpec.post enc Tryz.prog Tryz.f4 false true false false W args v W' := by
 have hW' := hW
 obtain ⟨p,q,hA,hV,rfl,hfz,hnd⟩:=hW
 rw [Tryz.params4] at hA hval
 obtain ⟨v0,vs0,d0,ds0,p0,q0,hargs,rfl,rfl,h0,r0⟩:=trodAll_cons hA
 obtain ⟨rfl,rfl,rfl⟩:=trodAll_nil r0
 obtain rfl:args = #[v0]:=by cases args; simp_all
 obtain ⟨rfl,rfl⟩:=trodVars_none hV
 obtain ⟨r,rfl⟩:=open_mob (hval 0 _ v0 rfl rfl) h0
 refine (lIs r).mono fun e W' h=>?_
 obtain ⟨h1,h2⟩:=h.is
 exact ⟨_,h1,law_post hW' rfl rfl rfl (by kernel_rfl) h2⟩
set_option maxRecDepth 100000 in
theorem lifted (os:Os) (started:os.Started) (H:Type) (enc:TypeId × Value → H) :
  ReturnsInHanded {} Tryz.checked os 4 .any (Rows.invertIsSpec.pre6 enc Tryz.prog Tryz.f4 Rows.invertIsRow.domain false) (Rows.invertIsSpec.post enc Tryz.prog Tryz.f4 false true false false):=by
 refine returnsInHanded_of_change (C:=Tryz.checked) law_own started (by kernel_rfl) Tryz.func4
  (ChangeSpec.witness6 (enc:=enc) (C:=Tryz.checked) false ⟨#[],#[.agg #[.bool false,.string ⟨#[]⟩,.bool false,.string ⟨#[]⟩,.bool false,.string ⟨#[]⟩,.bool false,.string ⟨#[]⟩,.bool false,.string ⟨#[]⟩,.bool false,.string ⟨#[]⟩,.bool false,.string ⟨#[]⟩,.bool false,.string ⟨#[]⟩,.bool false,.string ⟨#[]⟩,.bool false,.string ⟨#[]⟩,.bool false,.string ⟨#[]⟩,.bool false,.string ⟨#[]⟩,.bool false,.string ⟨#[]⟩,.bool false,.string ⟨#[]⟩,.bool false,.string ⟨#[]⟩,.bool false,.string ⟨#[]⟩,.bool false]],[]⟩ 8 (by kernel_rfl) (by kernel_rfl) (by kernel_rfl) (by kernel_rfl)) ?_
 intro W base args ds gs before hval hW _ _
 exact contract H enc W base args ds gs before hval hW
theorem kA:Tryz.pinned.checked.prog.funcNamed Rows.invertIsRow.func = some 4:=by kernel_rfl
theorem laidP:laidOutB Tryz.pinned.checked.prog = true:=law_laid
set_option maxRecDepth 100000 in
set_option maxHeartbeats 4000000 in
theorem kB:joinedFacts Tryz.pinned.checked.prog 4 Tryz.f4 Rows.invertIsSpec Rows.invertIsRow = true:=by
 unfold joinedFacts
 simp only [Bool.and_eq_true]
 repeat' apply And.intro
 all_goals first | with_reducible exact laidP | as_aux_lemma=>kernel_rfl
theorem kC:Tryz.f4.isInstance Tryz.pinned.checked.prog Rows.invertIsRow.origin Rows.invertIsRow.targs:=of_decide_eq_true (by kernel_rfl)
theorem kD:Tryz.f4.isWrapper Tryz.pinned.checked.prog Rows.invertIsRow.wrapper Rows.invertIsRow.mainSum:=by
 unfold Func.isWrapper; first | (rw [if_pos (by decide +kernel)]; kernel_rfl) | (rw [if_neg (by decide +kernel)]; exact ⟨rfl,rfl⟩)
theorem over:Rows.InvertIsSaid :=
 OpenClaim.holds_of_wide 4 Tryz.f4 rfl rfl rfl rfl rfl rfl rfl ⟨rfl,rfl,rfl,rfl,rfl⟩ rfl rfl rfl rfl rfl kA Tryz.func4 kB kC kD
  (fun os started H enc _=>lifted os started H enc)
end Go.Proofs.YtcpjdjnaipbieaaGreat.ivIsLaw
namespace Go.Proofs.YtcpjdjnaipbieaaGreat
theorem invertIs_proved:Rows.InvertIsSaid:=ivIsLaw.over
end Go.Proofs.YtcpjdjnaipbieaaGreat
