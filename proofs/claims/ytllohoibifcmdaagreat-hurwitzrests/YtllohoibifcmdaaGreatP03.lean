import Derived.Test.YtllohoibifcmdaaGreatP02
import Derived.StillTailTactics
set_option linter.unusedVariables false
set_option linter.unusedSimpArgs false
namespace Go.Proofs.YtllohoibifcmdaaGreat
open Go.RowKit Rgn
set_option maxHeartbeats 4000000
set_option maxRecDepth 100000
variable {S:Nat → Prop} {W:World}
theorem bQuoRem {z:Nat} {v1:Value} {v2:Value} {r:Nat} (x:Int) (y:Int) (hz:IntBlk W z) (t1:(IntP x).p S v1 W) (t2:(IntP y).p S v2 W) (hz_r:IntBlk W r) (N_z_r:z ≠ r) (p0:hi x + hi y ≤ 1099511627776) (p1:y ≠ 0) :
  Calls Tryz.prog 213 #[.pointer (some ⟨z,0,none⟩),v1,v2,.pointer (some ⟨r,0,none⟩)] W (RetOwn2 z (IntO (x.tdiv y)) r (IntO (x.tmod y)) W):=by
 have hS_:∃ S' : Nat → Prop,S' z ∧ S' r ∧ (IntP x).p S' v1 W ∧ (IntP y).p S' v2 W:=⟨fun k=>S k ∨ k = z ∨ k = r,.inr (.inl rfl),.inr (.inr rfl),(IntP x).mono (fun _ _ h=>.inl h) t1,(IntP y).mono (fun _ _ h=>.inl h) t2⟩
 clear t1 t2
 obtain ⟨S,L_z,L_r,t1,t2⟩:=hS_
 replace L_z:Amb S W z:=.inl L_z; replace L_r:Amb S W r:=.inl L_r
 obtain ⟨z_0,z_1,B_z⟩:=hz
 obtain ⟨b1,ob1,rfl,L1,F1⟩:=IntP.elim t1
 replace L1:Amb S W b1:=.inl L1
 obtain ⟨b2,ob2,rfl,L2,F2⟩:=IntP.elim t2
 replace L2:Amb S W b2:=.inl L2
 obtain ⟨r_0,r_1,B_r⟩:=hz_r
 have q0:=hi_bl x
 have q1:=hi_bl y
 have q2:=bl_mono (Nat.mod_le x.natAbs y.natAbs)
 have bel:Only2 z r W W:=Only2.refl _ _ _
 go_enter Tryz.func213,Tryz.ntmps213
 refine gs 2 (Amb S W) fun _ K3=>?_
 refine .mc rfl ?_
 refine .mc rfl ?_
 refine .dg (fun u=>pt z::.pointer (some ⟨b1,ob1,none⟩)::.pointer (some ⟨b2,ob2,none⟩)::pt r::U::U::U::U::u 0::u 1::us 40) K3 bel.size fun u1 w1 D=>?_
 have E1_0:=D.q 0
 have E1_1:=D.q 1
 replace B_z:=D.k B_z
 replace B_r:=D.k B_r
 replace F1:=D.o L1 F1
 replace F2:=D.o L2 F2
 replace bel:=bel.base D.d.base.grow.os D.d.base.grow.tape D.d.base.grow.output D.d.base.grow.size (fun k hk h1 h2=>D.d.base.block k (by omega) (by simp))
 clear D
 refine gd 14 (Amb S W) fun _ K4=>?_
 refine .mz rfl 1 (V:=.pointer (some ⟨b1,ob1,none⟩)) rfl ?_
 refine .nc rfl 0 ?_
 refine .fj rfl 1 (ob1 + 1) ?_
 refine Go2.fn (i:=3) rfl (G0 rfl) (.val 3 [] (MagP x.natAbs)) (fun u μ ρ H=>by have e17:=H.g 17 2; obtain ⟨v_,c1,hm_⟩:=IntP.c1 (k:=ob1 + 1) (VP.any _ (H.was _ [] (VP.at F1 L1))) rfl; exact ⟨v_,by clear H hm_; go_simp,SP.magVal hm_⟩) ?_
 refine .mz rfl 2 (V:=.pointer (some ⟨b2,ob2,none⟩)) rfl ?_
 refine .nc rfl 4 ?_
 refine .fj rfl 5 (ob2 + 1) ?_
 refine Go2.fn (i:=7) rfl (G0 rfl) (.val 7 [] (MagP y.natAbs)) (fun u μ ρ H=>by have e21:=H.g 21 6; obtain ⟨v_,c1,hm_⟩:=IntP.c1 (k:=ob2 + 1) (VP.any _ (H.was _ [] (VP.at F2 L2))) rfl; exact ⟨v_,by clear H hm_; go_simp,SP.magVal hm_⟩) ?_
 refine .cR rfl [3,7] Tryz.func212 (fun H=>⟨_,ar2 (H.r 18 3) (H.r 22 7),bDivide _ _ (SV.sub [3,7] (H.a 3 rfl) rfl) (SV.sub [3,7] (H.a 7 rfl) rfl) (by omega) (by omega)⟩) ?_
 refine .mn rfl 8 [3,7,8] ?_
 refine Go2.fn (i:=10) rfl (G0 rfl) (.val 10 [3,7,8,9] (MagP (x.natAbs / y.natAbs))) (fun u μ ρ H=>by have e14:=H.r 14 9; have h0:=(H.a 9 rfl); obtain ⟨x0,x1,h1,h2⟩:=h0; rw [h1] at e14; exact ⟨x0,by clear H; go_simp,SP.tupKeep (by decide) (by decide) h2.1⟩) ?_
 refine Go2.fn (i:=11) rfl (G0 rfl) (.val 11 [3,7,8,9] (MagP (x.natAbs % y.natAbs))) (fun u μ ρ H=>by have e14:=H.r 14 9; have h0:=(H.a 9 rfl); obtain ⟨x0,x1,h1,h2⟩:=h0; rw [h1] at e14; exact ⟨x1,by clear H; go_simp,SP.tupKeep (by decide) (by decide) h2.2⟩) ?_
 refine .mn rfl 10 [3,7,8,9,10] ?_
 refine .mn rfl 11 [3,7,8,9,11] ?_
 refine .dg (fun u=>pt z::.pointer (some ⟨b1,ob1,none⟩)::.pointer (some ⟨b2,ob2,none⟩)::pt r::U::U::U::U::u1 0::u1 1::u 12::u 13::U::U::u 9::sq u 0 9 (u 10::u 11::us 24)) K4 bel.size fun u2 w2 D=>?_
 obtain ⟨x5,E2_12,F_x5⟩:∃ x_,(u2 12).v = x_ ∧ (MagP (x.natAbs / y.natAbs)).p (Amb S W) x_ w2:=⟨_,rfl,D.rr 12⟩
 obtain ⟨x6,E2_13,F_x6⟩:∃ x_,(u2 13).v = x_ ∧ (MagP (x.natAbs % y.natAbs)).p (Amb S W) x_ w2:=⟨_,rfl,D.rr 13⟩
 replace B_z:=D.k B_z
 replace B_r:=D.k B_r
 replace F1:=D.o L1 F1
 replace F2:=D.o L2 F2
 replace bel:=bel.base D.d.base.grow.os D.d.base.grow.tape D.d.base.grow.output D.d.base.grow.size (fun k hk h1 h2=>D.d.base.block k (by omega) (by simp))
 clear D
 refine gd 15 (Amb S W) fun _ K7=>?_
 refine .mz rfl 1 (V:=.pointer (some ⟨b1,ob1,none⟩)) rfl ?_
 refine .nc rfl 0 ?_
 refine .fj rfl 1 ob1 ?_
 refine .e rfl (V:=.bool (decide (x < 0))) (fun H=>by have e28:=H.g 28 2; have c1:=IntP.c0 (k:=ob1) (VP.any _ (H.was _ [] (VP.at F1 L1))) rfl; clear H; go_simp) ?_
 refine .mz rfl 2 (V:=.pointer (some ⟨b2,ob2,none⟩)) rfl ?_
 refine .nc rfl 4 ?_
 refine .fj rfl 5 ob2 ?_
 refine .e rfl (V:=.bool (decide (y < 0))) (fun H=>by have e32:=H.g 32 6; have c1:=IntP.c0 (k:=ob2) (VP.any _ (H.was _ [] (VP.at F2 L2))) rfl; clear H; go_simp) ?_
 refine .e rfl (V:=.bool ((decide (x < 0)) != (decide (y < 0)))) (fun H=>x_bne (H.g 29 3) (H.g 33 7)) ?_
 refine .mz rfl 1 (V:=.pointer (some ⟨b1,ob1,none⟩)) rfl ?_
 refine .nc rfl 9 ?_
 refine .fj rfl 10 ob1 ?_
 refine .e rfl (V:=.bool (decide (x < 0))) (fun H=>by have e37:=H.g 37 11; have c1:=IntP.c0 (k:=ob1) (VP.any _ (H.was _ [] (VP.at F1 L1))) rfl; clear H; go_simp) ?_
 refine .mv rfl 8 ?_
 refine .mv rfl 12 ?_
 refine .dg (fun u=>pt z::.pointer (some ⟨b1,ob1,none⟩)::.pointer (some ⟨b2,ob2,none⟩)::pt r::U::U::U::U::u1 0::u1 1::u2 12::u2 13::u 13::u 14::u2 9::sq u2 0 9 (u2 10::u2 11::sq u 0 13 (us 11))) K7 bel.size fun u3 w3 D=>?_
 have E3_13:=D.q 13
 have E3_14:=D.q 14
 replace B_z:=D.k B_z
 replace B_r:=D.k B_r
 replace F_x5:=D.gr (MagP (x.natAbs / y.natAbs)) F_x5
 replace F_x6:=D.gr (MagP (x.natAbs % y.natAbs)) F_x6
 replace bel:=bel.base D.d.base.grow.os D.d.base.grow.tape D.d.base.grow.output D.d.base.grow.size (fun k hk h1 h2=>D.d.base.block k (by omega) (by simp))
 clear D
 refine wp_seq_k fun _ K8=>?_
 refine go2_seqT 4 1 rfl (Amb S W) [] [] (Olds.nil _) (by kernel_rfl) ?_
 refine .mz rfl 3 (V:=pt r) rfl ?_
 refine .mz rfl 13 E3_14 ?_
 refine .mz rfl 11 E2_13 ?_
 refine Go2.grow (i:=3) rfl (G0 rfl) (.val 3 [] (MagP (x.natAbs % y.natAbs))) (fun u μ ρ H=>by have k0:=H.c (.slice none 0 0); have e41:=H.g 41 2; obtain ⟨v_,w_,hr_,hm_,hb_⟩:=append_mag 96 (n:=x.natAbs % y.natAbs) (show Mag _ x6 _ from (VP.any _ (H.was _ [] F_x6))) (by omega); exact ⟨v_,w_,ex_append rfl (H.const _) e41 hr_,SP.magVal hm_,hb_⟩) ?_
 refine .dT (fun u=>pt z::.pointer (some ⟨b1,ob1,none⟩)::.pointer (some ⟨b2,ob2,none⟩)::pt r::U::U::U::U::u1 0::u1 1::u2 12::u2 13::u3 13::u3 14::u2 9::sq u2 0 9 (u2 10::u2 11::sq u3 0 13 (sq u 0 5 (us 6)))) bel.size _ rfl fun u4 w4 D=>?_
 obtain ⟨x9,E4_3,F_x9⟩:∃ x_,(u4 3).v = x_ ∧ (MagP (x.natAbs % y.natAbs)).p (Amb S W) x_ w4:=⟨_,rfl,D.rr 3⟩
 have E4_0:=D.q 0
 have E4_1:=D.q 1
 replace B_z:=D.k B_z
 replace B_r:=D.k B_r
 replace F_x5:=D.gr (MagP (x.natAbs / y.natAbs)) F_x5
 replace bel:=bel.base D.d.base.grow.os D.d.base.grow.tape D.d.base.grow.output D.d.base.grow.size (fun k hk h1 h2=>D.d.base.block k (by omega) (by simp))
 clear D
 refine wpT_callO (args:=#[pt r,.bool (decide (x < 0)),x9]) rfl (ex_call rfl rfl Tryz.func126 (by kernel_rfl) (by kernel_rfl) (by simp only [List.map_toArray,List.map_cons,List.map_nil]; show #[(u4 0).v,(u4 1).v,(u4 3).v] = #[pt r,.bool (decide (x < 0)),x9]; rw [E4_0,E4_1,E4_3])) (bIs (z:=r) (neg:=(decide (x < 0))) (n:=x.natAbs % y.natAbs) (IntBlk.of B_r) (MagP.raw (VP.any _ F_x9)) ) fun w10 fw10 ow10=>?_
 have sw10:Soft w4 r ∨ Local w4 r:=.inl ⟨_,_,B_r,rfl⟩
 replace B_z:=ow10.keep B_z N_z_r
 replace F_x5:(MagP (x.natAbs / y.natAbs)).p (Amb S W) x5 w10:=(MagP (x.natAbs / y.natAbs)).grow (S:=fun _=>False) (Rgn.Only.growF ow10 sw10) F_x5
 replace F_x9:(MagP (x.natAbs % y.natAbs)).p (Amb S W) x9 w10:=(MagP (x.natAbs % y.natAbs)).grow (S:=fun _=>False) (Rgn.Only.growF ow10 sw10) F_x9
 have F_r:=fw10
 replace bel:=bel.right ow10
 refine wpList_nil ?_
 show _
 refine K8 _ _ ?_
 refine wp_seq_k fun _ K11=>?_
 refine go2_seqT 3 1 rfl (Amb S W) [] [] (Olds.nil _) (by kernel_rfl) ?_
 refine .mz rfl 0 (V:=pt z) rfl ?_
 refine .mz rfl 12 E3_13 ?_
 refine .mz rfl 10 E2_12 ?_
 refine .dT (fun u=>pt z::.pointer (some ⟨b1,ob1,none⟩)::.pointer (some ⟨b2,ob2,none⟩)::pt r::U::U::U::U::u1 0::u1 1::u2 12::u2 13::u3 13::u3 14::u2 9::sq u2 0 9 (u2 10::u2 11::sq u3 0 13 (sq u4 0 4 (.pointer (some ⟨r,0,none⟩)::sq u 0 4 (U::U::[]))))) bel.size _ rfl fun u5 w5 D=>?_
 have E5_0:=D.q 0
 have E5_1:=D.q 1
 have E5_2:=D.q 2
 replace B_z:=D.k B_z
 replace F_r:=D.o L_r F_r
 replace F_x5:=D.gr (MagP (x.natAbs / y.natAbs)) F_x5
 replace bel:=bel.base D.d.base.grow.os D.d.base.grow.tape D.d.base.grow.output D.d.base.grow.size (fun k hk h1 h2=>D.d.base.block k (by omega) (by simp))
 clear D
 refine wpT_callO (args:=#[pt z,.bool ((decide (x < 0)) != (decide (y < 0))),x5]) rfl (ex_call rfl rfl Tryz.func126 (by kernel_rfl) (by kernel_rfl) (by simp only [List.map_toArray,List.map_cons,List.map_nil]; show #[(u5 0).v,(u5 1).v,(u5 2).v] = #[pt z,.bool ((decide (x < 0)) != (decide (y < 0))),x5]; rw [E5_0,E5_1,E5_2])) (bIs (z:=z) (neg:=((decide (x < 0)) != (decide (y < 0)))) (n:=x.natAbs / y.natAbs) (IntBlk.of B_z) (MagP.raw (VP.any _ F_x5)) ) fun w12 fw12 ow12=>?_
 have sw12:Soft w5 z ∨ Local w5 z:=.inl ⟨_,_,B_z,rfl⟩
 replace F_r:=ow12.one sw12 _ (Ne.symm N_z_r) F_r
 replace F_x5:(MagP (x.natAbs / y.natAbs)).p (Amb S W) x5 w12:=(MagP (x.natAbs / y.natAbs)).grow (S:=fun _=>False) (Rgn.Only.growF ow12 sw12) F_x5
 have F_z:=fw12
 replace bel:=bel.left ow12
 refine wpList_nil ?_
 show _
 refine K11 _ _ ?_
 refine gs 4 (Amb S W) fun _ K13=>?_
 refine .mz rfl 0 (V:=pt z) rfl ?_
 refine .mz rfl 3 (V:=pt r) rfl ?_
 refine .mv rfl 0 ?_
 refine .mv rfl 1 ?_
 refine .dg (fun u=>pt z::.pointer (some ⟨b1,ob1,none⟩)::.pointer (some ⟨b2,ob2,none⟩)::pt r::U::U::U::U::u 2::u 3::u2 12::u2 13::u3 13::u3 14::u2 9::sq u2 0 9 (u2 10::u2 11::sq u3 0 13 (sq u4 0 4 (.pointer (some ⟨r,0,none⟩)::sq u5 0 3 (.pointer (some ⟨z,0,none⟩)::u 0::u 1::[]))))) K13 bel.size fun u6 w6 D=>?_
 have E6_2:=D.q 2
 have E6_3:=D.q 3
 replace F_r:=D.o L_r F_r
 replace F_z:=D.o L_z F_z
 replace bel:=bel.base D.d.base.grow.os D.d.base.grow.tape D.d.base.grow.output D.d.base.grow.size (fun k hk h1 h2=>D.d.base.block k (by omega) (by simp))
 clear D
 refine wp_ret ?_
 exact ret_ok rfl (by exact results_two rfl (by exact E6_2) (by exact E6_3)) ⟨rfl,(into_eq (sgn_tdiv) F_z),(into_eq (sgn_tmod) F_r),bel⟩
theorem bQuo {z:Nat} {v1:Value} {v2:Value} (x:Int) (y:Int) (hz:IntBlk W z) (t1:(IntP x).p S v1 W) (t2:(IntP y).p S v2 W) (p0:hi x + hi y ≤ 1099511627776) (p1:y ≠ 0) :
  Calls Tryz.prog 196 #[.pointer (some ⟨z,0,none⟩),v1,v2] W (RetOwn z (IntO (x.tdiv y)) W):=by
 have hS_:∃ S' : Nat → Prop,S' z ∧ (IntP x).p S' v1 W ∧ (IntP y).p S' v2 W:=⟨fun k=>S k ∨ k = z,.inr rfl,(IntP x).mono (fun _ _ h=>.inl h) t1,(IntP y).mono (fun _ _ h=>.inl h) t2⟩
 clear t1 t2
 obtain ⟨S,L_z,t1,t2⟩:=hS_
 replace L_z:Amb S W z:=.inl L_z
 obtain ⟨z_0,z_1,B_z⟩:=hz
 obtain ⟨b1,ob1,rfl,L1,F1⟩:=IntP.elim t1
 replace L1:Amb S W b1:=.inl L1
 obtain ⟨b2,ob2,rfl,L2,F2⟩:=IntP.elim t2
 replace L2:Amb S W b2:=.inl L2
 have bel:Only z W W:=Only.refl _ _
 go_enter Tryz.func196,Tryz.ntmps196
 refine gs 1 (Amb S W) fun _ K3=>?_
 refine .mc rfl ?_
 refine .dg (fun u=>pt z::.pointer (some ⟨b1,ob1,none⟩)::.pointer (some ⟨b2,ob2,none⟩)::U::U::U::u 0::us 6) K3 bel.size fun u1 w1 D=>?_
 have E1_0:=D.q 0
 replace B_z:=D.k B_z
 replace F1:=D.o L1 F1
 replace F2:=D.o L2 F2
 replace bel:=D.d.base.only0 bel
 clear D
 refine wp_seq_k fun _ K4=>?_
 refine go2_seqT 4 1 rfl (Amb S W) [] [] (Olds.nil _) (by kernel_rfl) ?_
 refine .mz rfl 0 (V:=pt z) rfl ?_
 refine .mz rfl 1 (V:=.pointer (some ⟨b1,ob1,none⟩)) rfl ?_
 refine .mz rfl 2 (V:=.pointer (some ⟨b2,ob2,none⟩)) rfl ?_
 refine .al rfl zI ?_
 refine .dT (fun u=>pt z::.pointer (some ⟨b1,ob1,none⟩)::.pointer (some ⟨b2,ob2,none⟩)::U::U::U::u1 0::sq u 0 5 (U::[])) bel.size _ rfl fun u2 w2 D=>?_
 obtain ⟨b5,E2_3,A5,B5⟩:=D.nw 3
 have E2_0:=D.q 0
 have E2_1:=D.q 1
 have E2_2:=D.q 2
 have N_z_b5:=D.n1 3 (lt_of B_z) E2_3
 replace B_z:=D.k B_z
 replace F1:=D.o L1 F1
 replace F2:=D.o L2 F2
 replace bel:=D.d.base.only0 bel
 clear D
 refine wpT_callO2 (args:=#[pt z,.pointer (some ⟨b1,ob1,none⟩),.pointer (some ⟨b2,ob2,none⟩),pt b5]) rfl (ex_call rfl rfl Tryz.func213 (by kernel_rfl) (by kernel_rfl) (by simp only [List.map_toArray,List.map_cons,List.map_nil]; show #[(u2 0).v,(u2 1).v,(u2 2).v,(u2 3).v] = #[pt z,.pointer (some ⟨b1,ob1,none⟩),.pointer (some ⟨b2,ob2,none⟩),pt b5]; rw [E2_0,E2_1,E2_2,E2_3])) (bQuoRem (z:=z) (x:=x) (y:=y) (r:=b5) (IntBlk.of B_z) (VP.any _ F1) (VP.any _ F2) (IntBlk.of B5) N_z_b5 (by first | omega | exact p1) (by first | omega | exact p1)) fun w6 fw6a fw6b ow6=>?_
 have sw6_z:Soft w2 z ∨ Local w2 z:=.inl ⟨_,_,B_z,rfl⟩
 have sw6_b5:Soft w2 b5 ∨ Local w2 b5:=.inl ⟨_,_,B5,rfl⟩
 have F_z:=fw6a
 have F5:=fw6b
 have L5:Amb S W b5:=.inr A5
 replace bel:=ow6.drop bel A5
 refine wpList_nil ?_
 show _
 refine K4 _ _ ?_
 refine gs 2 (Amb S W) fun _ K7=>?_
 refine .mz rfl 0 (V:=pt z) rfl ?_
 refine .mv rfl 0 ?_
 refine .dg (fun u=>pt z::.pointer (some ⟨b1,ob1,none⟩)::.pointer (some ⟨b2,ob2,none⟩)::U::U::U::u 1::sq u2 0 4 (.tuple #[pt z,pt b5]::u 0::[])) K7 bel.size fun u3 w3 D=>?_
 have E3_1:=D.q 1
 replace F_z:=D.o L_z F_z
 replace bel:=D.d.base.only0 bel
 clear D
 refine wp_ret ?_
 refine ret_ok rfl (by exact results_tmp' rfl (by exact E3_1)) ⟨rfl,?_,bel⟩
 exact F_z
end Go.Proofs.YtllohoibifcmdaaGreat
namespace Go.Proofs.YtllohoibifcmdaaGreat
open Go.RowKit Rgn
theorem hi_tdiv (x y:Int):hi (x.tdiv y) ≤ hi x:=by
 rw [← sgn_tdiv,hi_sgn]; unfold hi
 have:=bl_mono (Nat.div_le_self x.natAbs y.natAbs); omega
theorem hi_tmod (x y:Int):hi (x.tmod y) ≤ hi x:=by
 rw [← sgn_tmod,hi_sgn]; unfold hi
 have:=bl_mono (Nat.mod_le x.natAbs y.natAbs); omega
theorem hi_natAbs (x:Int):hi (x.natAbs:Int) = hi x:=rfl
theorem tmod_lt {x y:Int} (hy:y ≠ 0):-(y.natAbs:Int) < x.tmod y ∧ x.tmod y < (y.natAbs:Int):=by
 have h:=Nat.mod_lt x.natAbs (show 0 < y.natAbs by omega)
 rw [← sgn_tmod]
 unfold sgn
 split <;> omega
theorem dm_a {x y:Int} (hy:y ≠ 0) (h:x.tmod y < 0) (hn:y < 0):x.tdiv y + 1 = x / y ∧ x.tmod y + (y.natAbs:Int) = x % y:=by
 have h1:=tmod_lt (x:=x) hy
 have h2:=Int.mul_tdiv_add_tmod x y
 refine em_unique hy ?_ (by omega) (by omega)
 rw [Int.mul_add]; omega
theorem dm_b {x y:Int} (hy:y ≠ 0) (h:x.tmod y < 0) (hn:¬ y < 0):x.tdiv y - 1 = x / y ∧ x.tmod y + (y.natAbs:Int) = x % y:=by
 have h1:=tmod_lt (x:=x) hy
 have h2:=Int.mul_tdiv_add_tmod x y
 refine em_unique hy ?_ (by omega) (by omega)
 rw [Int.mul_sub]; omega
theorem dm_c {x y:Int} (hy:y ≠ 0) (h:¬ x.tmod y < 0):x.tdiv y = x / y ∧ x.tmod y = x % y:=by
 have h1:=tmod_lt (x:=x) hy
 have h2:=Int.mul_tdiv_add_tmod x y
 exact em_unique hy h2 (by omega) h1.2
end Go.Proofs.YtllohoibifcmdaaGreat
namespace Go.Proofs.YtllohoibifcmdaaGreat
open Go.RowKit Rgn
set_option maxHeartbeats 4000000
set_option maxRecDepth 100000
variable {S:Nat → Prop} {W:World}
theorem bDivMod {z:Nat} {v1:Value} {v2:Value} {r:Nat} (x:Int) (y:Int) (hz:IntBlk W z) (t1:(IntP x).p S v1 W) (t2:(IntP y).p S v2 W) (hz_r:IntBlk W r) (N_z_r:z ≠ r) (p0:hi x + hi y + 4 ≤ 1099511627776) (p1:y ≠ 0) :
  Calls Tryz.prog 202 #[.pointer (some ⟨z,0,none⟩),v1,v2,.pointer (some ⟨r,0,none⟩)] W (RetOwn2 z (IntO (x / y)) r (IntO (x % y)) W):=by
 have hS_:∃ S' : Nat → Prop,S' z ∧ S' r ∧ (IntP x).p S' v1 W ∧ (IntP y).p S' v2 W:=⟨fun k=>S k ∨ k = z ∨ k = r,.inr (.inl rfl),.inr (.inr rfl),(IntP x).mono (fun _ _ h=>.inl h) t1,(IntP y).mono (fun _ _ h=>.inl h) t2⟩
 clear t1 t2
 obtain ⟨S,L_z,L_r,t1,t2⟩:=hS_
 replace L_z:Amb S W z:=.inl L_z; replace L_r:Amb S W r:=.inl L_r
 obtain ⟨z_0,z_1,B_z⟩:=hz
 obtain ⟨b1,ob1,rfl,L1,F1⟩:=IntP.elim t1
 replace L1:Amb S W b1:=.inl L1
 obtain ⟨b2,ob2,rfl,L2,F2⟩:=IntP.elim t2
 replace L2:Amb S W b2:=.inl L2
 obtain ⟨r_0,r_1,B_r⟩:=hz_r
 have h1:=hi_tdiv x y
 have h2:=hi_tmod x y
 have h3:=hi_natAbs y
 have h4:hi 1 = 2:=by decide
 have bel:Only2 z r W W:=Only2.refl _ _ _
 go_enter Tryz.func202,Tryz.ntmps202
 refine gs 2 (Amb S W) fun _ K3=>?_
 refine .mc rfl ?_
 refine .mc rfl ?_
 refine .dg (fun u=>pt z::.pointer (some ⟨b1,ob1,none⟩)::.pointer (some ⟨b2,ob2,none⟩)::pt r::U::U::U::U::u 0::u 1::us 33) K3 bel.size fun u1 w1 D=>?_
 have E1_0:=D.q 0
 have E1_1:=D.q 1
 replace B_z:=D.k B_z
 replace B_r:=D.k B_r
 replace F1:=D.o L1 F1
 replace F2:=D.o L2 F2
 replace bel:=bel.base D.d.base.grow.os D.d.base.grow.tape D.d.base.grow.output D.d.base.grow.size (fun k hk h1 h2=>D.d.base.block k (by omega) (by simp))
 clear D
 refine gs 4 (Amb S W) fun _ K4=>?_
 refine .al rfl zI ?_
 refine .mz rfl 2 (V:=.pointer (some ⟨b2,ob2,none⟩)) rfl ?_
 refine .cO rfl 0 Tryz.func128 (fun H h0 hz=>⟨_,ar2 (H.p 11 0 h0) (H.g 12 1),bSet _ (IntBlk.of hz) (VP.any _ (H.was _ [] (VP.at F2 L2))) (by first | omega | exact p1)⟩) ?_
 refine .mo rfl 2 ?_
 refine .dg (fun u=>pt z::.pointer (some ⟨b1,ob1,none⟩)::.pointer (some ⟨b2,ob2,none⟩)::pt r::U::U::U::U::u1 0::u1 1::u 3::sq u 0 3 (us 29)) K4 bel.size fun u2 w2 D=>?_
 obtain ⟨b5,E2_3,A5,F5⟩:=D.ow 3
 have N_z_b5:=D.n1 0 (lt_of B_z) ((D.a 3 rfl).1.symm.trans E2_3)
 have N_r_b5:=D.n1 0 (lt_of B_r) ((D.a 3 rfl).1.symm.trans E2_3)
 replace B_z:=D.k B_z
 replace B_r:=D.k B_r
 replace F1:=D.o L1 F1
 replace F2:=D.o L2 F2
 have L5:Amb S W b5:=.inr A5
 replace bel:=bel.base D.d.base.grow.os D.d.base.grow.tape D.d.base.grow.output D.d.base.grow.size (fun k hk h1 h2=>D.d.base.block k (by omega) (by simp))
 clear D
 refine wp_seq_k fun _ K6=>?_
 refine go2_seqT 4 1 rfl (Amb S W) [] [] (Olds.nil _) (by kernel_rfl) ?_
 refine .mz rfl 0 (V:=pt z) rfl ?_
 refine .mz rfl 1 (V:=.pointer (some ⟨b1,ob1,none⟩)) rfl ?_
 refine .mz rfl 2 (V:=.pointer (some ⟨b2,ob2,none⟩)) rfl ?_
 refine .mz rfl 3 (V:=pt r) rfl ?_
 refine .dT (fun u=>pt z::.pointer (some ⟨b1,ob1,none⟩)::.pointer (some ⟨b2,ob2,none⟩)::pt r::U::U::U::U::u1 0::u1 1::u2 3::sq u2 0 3 (sq u 0 5 (us 24))) bel.size _ rfl fun u3 w3 D=>?_
 have E3_0:=D.q 0
 have E3_1:=D.q 1
 have E3_2:=D.q 2
 have E3_3:=D.q 3
 replace B_z:=D.k B_z
 replace B_r:=D.k B_r
 replace F1:=D.o L1 F1
 replace F2:=D.o L2 F2
 replace F5:=D.o L5 F5
 replace bel:=bel.base D.d.base.grow.os D.d.base.grow.tape D.d.base.grow.output D.d.base.grow.size (fun k hk h1 h2=>D.d.base.block k (by omega) (by simp))
 clear D
 refine wpT_callO2 (args:=#[pt z,.pointer (some ⟨b1,ob1,none⟩),.pointer (some ⟨b2,ob2,none⟩),pt r]) rfl (ex_call rfl rfl Tryz.func213 (by kernel_rfl) (by kernel_rfl) (by simp only [List.map_toArray,List.map_cons,List.map_nil]; show #[(u3 0).v,(u3 1).v,(u3 2).v,(u3 3).v] = #[pt z,.pointer (some ⟨b1,ob1,none⟩),.pointer (some ⟨b2,ob2,none⟩),pt r]; rw [E3_0,E3_1,E3_2,E3_3])) (bQuoRem (z:=z) (x:=x) (y:=y) (r:=r) (IntBlk.of B_z) (VP.any _ F1) (VP.any _ F2) (IntBlk.of B_r) N_z_r (by first | omega | exact p1) (by first | omega | exact p1)) fun w7 fw7a fw7b ow7=>?_
 have sw7_z:Soft w3 z ∨ Local w3 z:=.inl ⟨_,_,B_z,rfl⟩
 have sw7_r:Soft w3 r ∨ Local w3 r:=.inl ⟨_,_,B_r,rfl⟩
 replace F5:=ow7.one sw7_z sw7_r _ (Ne.symm N_z_b5) (Ne.symm N_r_b5) F5
 have F_z:=fw7a
 have F_r:=fw7b
 replace bel:=bel.trans ow7
 refine wpList_nil ?_
 show _
 refine K6 _ _ ?_
 refine wp_seq_k fun _ K8=>?_
 refine gs 4 (Amb S W) fun _ K9=>?_
 refine .mz rfl 3 (V:=pt r) rfl ?_
 refine .nc rfl 0 ?_
 refine .fj rfl 1 0 ?_
 refine .e rfl (V:=.bool (decide ((x.tmod y) < 0))) (fun H=>by have e21:=H.g 21 2; have c1:=IntP.c0 (k:=0) (VP.any _ (IntO.p (H.was _ [] (VP.at F_r L_r)))) rfl; clear H; go_simp) ?_
 refine .dg (fun u=>pt z::.pointer (some ⟨b1,ob1,none⟩)::.pointer (some ⟨b2,ob2,none⟩)::pt r::U::U::U::U::u1 0::u1 1::u2 3::sq u2 0 3 (sq u3 0 4 (.tuple #[pt z,pt r]::sq u 0 4 (us 20)))) K9 bel.size fun u4 w4 D=>?_
 have E4_3:=D.q 3
 replace F5:=D.o L5 F5
 replace F_z:=D.o L_z F_z
 replace F_r:=D.o L_r F_r
 replace bel:=bel.base D.d.base.grow.os D.d.base.grow.tape D.d.base.grow.output D.d.base.grow.size (fun k hk h1 h2=>D.d.base.block k (by omega) (by simp))
 clear D
 rcases Bool.eq_false_or_eq_true (decide ((x.tmod y) < 0)) with c10 | c10
 ·
  refine wp_cond_true ((E4_3).trans (congrArg Value.bool c10)) ?_
  have dc10:=of_decide_eq_true c10
  refine wp_seq_k fun _ K11=>?_
  refine gs 4 (Amb S W) fun _ K12=>?_
  refine .mz rfl 10 E2_3 ?_
  refine .nc rfl 0 ?_
  refine .fj rfl 1 0 ?_
  refine .e rfl (V:=.bool (decide (y < 0))) (fun H=>by have e25:=H.g 25 2; have c1:=IntP.c0 (k:=0) (VP.any _ (IntO.p (H.was _ [] (VP.at F5 L5)))) rfl; clear H; go_simp) ?_
  refine .dg (fun u=>pt z::.pointer (some ⟨b1,ob1,none⟩)::.pointer (some ⟨b2,ob2,none⟩)::pt r::U::U::U::U::u1 0::u1 1::u2 3::sq u2 0 3 (sq u3 0 4 (.tuple #[pt z,pt r]::sq u4 0 4 (sq u 0 4 (us 16))))) K12 bel.size fun u5 w5 D=>?_
  have E5_3:=D.q 3
  replace F5:=D.o L5 F5
  replace F_z:=D.o L_z F_z
  replace F_r:=D.o L_r F_r
  replace bel:=bel.base D.d.base.grow.os D.d.base.grow.tape D.d.base.grow.output D.d.base.grow.size (fun k hk h1 h2=>D.d.base.block k (by omega) (by simp))
  clear D
  rcases Bool.eq_false_or_eq_true (decide (y < 0)) with c13 | c13
  ·
   refine wp_cond_true ((E5_3).trans (congrArg Value.bool c13)) ?_
   have dc13:=of_decide_eq_true c13
   refine go2_seqT 3 1 rfl (Amb S W) [] [] (Olds.nil _) (by kernel_rfl) ?_
   refine .mz rfl 0 (V:=pt z) rfl ?_
   refine .mz rfl 0 (V:=pt z) rfl ?_
   refine .cR rfl [] Tryz.func130 (fun H=>⟨_,ar1 (H.c (.int .i64 1)),bNewInt _ (by first | omega | exact p1) (by first | omega | exact p1)⟩) ?_
   refine .dT (fun u=>pt z::.pointer (some ⟨b1,ob1,none⟩)::.pointer (some ⟨b2,ob2,none⟩)::pt r::U::U::U::U::u1 0::u1 1::u2 3::sq u2 0 3 (sq u3 0 4 (.tuple #[pt z,pt r]::sq u4 0 4 (sq u5 0 4 (sq u 0 4 (us 12)))))) bel.size _ rfl fun u6 w6 D=>?_
   obtain ⟨b14,E6_2,L14,F14⟩:=IntO.elim (D.rr 2)
   have E6_0:=D.q 0
   have E6_1:=D.q 1
   replace F5:=D.o L5 F5
   replace F_z:=D.o L_z F_z
   replace F_r:=D.o L_r F_r
   replace bel:=bel.base D.d.base.grow.os D.d.base.grow.tape D.d.base.grow.output D.d.base.grow.size (fun k hk h1 h2=>D.d.base.block k (by omega) (by simp))
   clear D
   refine wpT_callO (args:=#[pt z,pt z,pt b14]) rfl (ex_call rfl rfl Tryz.func159 (by kernel_rfl) (by kernel_rfl) (by simp only [List.map_toArray,List.map_cons,List.map_nil]; show #[(u6 0).v,(u6 1).v,(u6 2).v] = #[pt z,pt z,pt b14]; rw [E6_0,E6_1,E6_2])) (bAdd (z:=z) (x:=x.tdiv y) (y:=(1:Int)) (IntO.blk F_z) (IntO.p (VP.any _ F_z)) (IntO.p (VP.any _ F14)) (by first | omega | exact p1)) fun w15 fw15 ow15=>?_
   have sw15:Soft w6 z ∨ Local w6 z:=.inl (IntO.soft F_z)
   replace F5:=ow15.one sw15 _ (Ne.symm N_z_b5) F5
   replace F_r:=ow15.one sw15 _ (Ne.symm N_z_r) F_r
   have F_z:=fw15
   replace bel:=bel.left ow15
   refine wpList_nil ?_
   show _
   refine K11 _ _ ?_
   refine go2_seqT 5 1 rfl (Amb S W) [] [] (Olds.nil _) (by kernel_rfl) ?_
   refine .mz rfl 3 (V:=pt r) rfl ?_
   refine .mz rfl 3 (V:=pt r) rfl ?_
   refine .al rfl zI ?_
   refine .mz rfl 10 E2_3 ?_
   refine .cO rfl 2 Tryz.func215 (fun H h0 hz=>⟨_,ar2 (H.p 37 2 h0) (H.g 38 3),bAbs (x:=_) (IntBlk.of hz) (IntO.p (VP.any _ (H.was _ [] (VP.at F5 L5)))) (by first | omega | exact p1)⟩) ?_
   refine .dT (fun u=>pt z::.pointer (some ⟨b1,ob1,none⟩)::.pointer (some ⟨b2,ob2,none⟩)::pt r::U::U::U::U::u1 0::u1 1::u2 3::sq u2 0 3 (sq u3 0 4 (.tuple #[pt z,pt r]::sq u4 0 4 (sq u5 0 4 (sq u6 0 3 (.pointer (some ⟨z,0,none⟩)::U::U::U::U::sq u 0 6 (U::U::[]))))))) bel.size _ rfl fun u7 w7 D=>?_
   obtain ⟨b16,E7_4,A16,F16⟩:=D.ow 4
   have E7_0:=D.q 0
   have E7_1:=D.q 1
   have N_z_b16:=D.n1 2 (IntO.lt F_z) ((D.a 4 rfl).1.symm.trans E7_4)
   have N_r_b16:=D.n1 2 (IntO.lt F_r) ((D.a 4 rfl).1.symm.trans E7_4)
   replace F_z:=D.o L_z F_z
   replace F_r:=D.o L_r F_r
   have L16:Amb S W b16:=.inr A16
   replace bel:=bel.base D.d.base.grow.os D.d.base.grow.tape D.d.base.grow.output D.d.base.grow.size (fun k hk h1 h2=>D.d.base.block k (by omega) (by simp))
   clear D
   refine wpT_callO (args:=#[pt r,pt r,pt b16]) rfl (ex_call rfl rfl Tryz.func159 (by kernel_rfl) (by kernel_rfl) (by simp only [List.map_toArray,List.map_cons,List.map_nil]; show #[(u7 0).v,(u7 1).v,(u7 4).v] = #[pt r,pt r,pt b16]; rw [E7_0,E7_1,E7_4])) (bAdd (z:=r) (x:=x.tmod y) (y:=(y.natAbs:Int)) (IntO.blk F_r) (IntO.p (VP.any _ F_r)) (IntO.p (VP.any _ F16)) (by first | omega | exact p1)) fun w17 fw17 ow17=>?_
   have sw17:Soft w7 r ∨ Local w7 r:=.inl (IntO.soft F_r)
   replace F_z:=ow17.one sw17 _ N_z_r F_z
   replace F16:=ow17.one sw17 _ (Ne.symm N_r_b16) F16
   have F_r:=fw17
   replace bel:=bel.right ow17
   refine wpList_nil ?_
   show _
   refine K8 _ _ ?_
   refine gs 4 (Amb S W) fun _ K18=>?_
   refine .mz rfl 0 (V:=pt z) rfl ?_
   refine .mz rfl 3 (V:=pt r) rfl ?_
   refine .mv rfl 0 ?_
   refine .mv rfl 1 ?_
   refine .dg (fun u=>pt z::.pointer (some ⟨b1,ob1,none⟩)::.pointer (some ⟨b2,ob2,none⟩)::pt r::U::U::U::U::u 2::u 3::u2 3::sq u2 0 3 (sq u3 0 4 (.tuple #[pt z,pt r]::sq u4 0 4 (sq u5 0 4 (sq u6 0 3 (.pointer (some ⟨z,0,none⟩)::U::U::U::U::sq u7 0 5 (.pointer (some ⟨r,0,none⟩)::u 0::u 1::[]))))))) K18 bel.size fun u8 w8 D=>?_
   have E8_2:=D.q 2
   have E8_3:=D.q 3
   replace F_z:=D.o L_z F_z
   replace F_r:=D.o L_r F_r
   replace bel:=bel.base D.d.base.grow.os D.d.base.grow.tape D.d.base.grow.output D.d.base.grow.size (fun k hk h1 h2=>D.d.base.block k (by omega) (by simp))
   clear D
   refine wp_ret ?_
   exact ret_ok rfl (by exact results_two rfl (by exact E8_2) (by exact E8_3)) ⟨rfl,(into_eq ((dm_a p1 dc10 dc13).1) F_z),(into_eq ((dm_a p1 dc10 dc13).2) F_r),bel⟩
  ·
   refine wp_cond_false ((E5_3).trans (congrArg Value.bool c13)) ?_
   have dc13:=of_decide_eq_false c13
   refine go2_seqT 3 1 rfl (Amb S W) [] [] (Olds.nil _) (by kernel_rfl) ?_
   refine .mz rfl 0 (V:=pt z) rfl ?_
   refine .mz rfl 0 (V:=pt z) rfl ?_
   refine .cR rfl [] Tryz.func130 (fun H=>⟨_,ar1 (H.c (.int .i64 1)),bNewInt _ (by first | omega | exact p1) (by first | omega | exact p1)⟩) ?_
   refine .dT (fun u=>pt z::.pointer (some ⟨b1,ob1,none⟩)::.pointer (some ⟨b2,ob2,none⟩)::pt r::U::U::U::U::u1 0::u1 1::u2 3::sq u2 0 3 (sq u3 0 4 (.tuple #[pt z,pt r]::sq u4 0 4 (sq u5 0 4 (U::U::U::U::sq u 0 4 (us 8)))))) bel.size _ rfl fun u9 w9 D=>?_
   obtain ⟨b19,E9_2,L19,F19⟩:=IntO.elim (D.rr 2)
   have E9_0:=D.q 0
   have E9_1:=D.q 1
   replace F5:=D.o L5 F5
   replace F_z:=D.o L_z F_z
   replace F_r:=D.o L_r F_r
   replace bel:=bel.base D.d.base.grow.os D.d.base.grow.tape D.d.base.grow.output D.d.base.grow.size (fun k hk h1 h2=>D.d.base.block k (by omega) (by simp))
   clear D
   refine wpT_callO (args:=#[pt z,pt z,pt b19]) rfl (ex_call rfl rfl Tryz.func140 (by kernel_rfl) (by kernel_rfl) (by simp only [List.map_toArray,List.map_cons,List.map_nil]; show #[(u9 0).v,(u9 1).v,(u9 2).v] = #[pt z,pt z,pt b19]; rw [E9_0,E9_1,E9_2])) (bSub (z:=z) (x:=x.tdiv y) (y:=(1:Int)) (IntO.blk F_z) (IntO.p (VP.any _ F_z)) (IntO.p (VP.any _ F19)) (by first | omega | exact p1)) fun w20 fw20 ow20=>?_
   have sw20:Soft w9 z ∨ Local w9 z:=.inl (IntO.soft F_z)
   replace F5:=ow20.one sw20 _ (Ne.symm N_z_b5) F5
   replace F_r:=ow20.one sw20 _ (Ne.symm N_z_r) F_r
   have F_z:=fw20
   replace bel:=bel.left ow20
   refine wpList_nil ?_
   show _
   refine K11 _ _ ?_
   refine go2_seqT 5 1 rfl (Amb S W) [] [] (Olds.nil _) (by kernel_rfl) ?_
   refine .mz rfl 3 (V:=pt r) rfl ?_
   refine .mz rfl 3 (V:=pt r) rfl ?_
   refine .al rfl zI ?_
   refine .mz rfl 10 E2_3 ?_
   refine .cO rfl 2 Tryz.func215 (fun H h0 hz=>⟨_,ar2 (H.p 37 2 h0) (H.g 38 3),bAbs (x:=_) (IntBlk.of hz) (IntO.p (VP.any _ (H.was _ [] (VP.at F5 L5)))) (by first | omega | exact p1)⟩) ?_
   refine .dT (fun u=>pt z::.pointer (some ⟨b1,ob1,none⟩)::.pointer (some ⟨b2,ob2,none⟩)::pt r::U::U::U::U::u1 0::u1 1::u2 3::sq u2 0 3 (sq u3 0 4 (.tuple #[pt z,pt r]::sq u4 0 4 (sq u5 0 4 (U::U::U::U::sq u9 0 3 (.pointer (some ⟨z,0,none⟩)::sq u 0 6 (U::U::[]))))))) bel.size _ rfl fun u10 w10 D=>?_
   obtain ⟨b21,E10_4,A21,F21⟩:=D.ow 4
   have E10_0:=D.q 0
   have E10_1:=D.q 1
   have N_z_b21:=D.n1 2 (IntO.lt F_z) ((D.a 4 rfl).1.symm.trans E10_4)
   have N_r_b21:=D.n1 2 (IntO.lt F_r) ((D.a 4 rfl).1.symm.trans E10_4)
   replace F_z:=D.o L_z F_z
   replace F_r:=D.o L_r F_r
   have L21:Amb S W b21:=.inr A21
   replace bel:=bel.base D.d.base.grow.os D.d.base.grow.tape D.d.base.grow.output D.d.base.grow.size (fun k hk h1 h2=>D.d.base.block k (by omega) (by simp))
   clear D
   refine wpT_callO (args:=#[pt r,pt r,pt b21]) rfl (ex_call rfl rfl Tryz.func159 (by kernel_rfl) (by kernel_rfl) (by simp only [List.map_toArray,List.map_cons,List.map_nil]; show #[(u10 0).v,(u10 1).v,(u10 4).v] = #[pt r,pt r,pt b21]; rw [E10_0,E10_1,E10_4])) (bAdd (z:=r) (x:=x.tmod y) (y:=(y.natAbs:Int)) (IntO.blk F_r) (IntO.p (VP.any _ F_r)) (IntO.p (VP.any _ F21)) (by first | omega | exact p1)) fun w22 fw22 ow22=>?_
   have sw22:Soft w10 r ∨ Local w10 r:=.inl (IntO.soft F_r)
   replace F_z:=ow22.one sw22 _ N_z_r F_z
   replace F21:=ow22.one sw22 _ (Ne.symm N_r_b21) F21
   have F_r:=fw22
   replace bel:=bel.right ow22
   refine wpList_nil ?_
   show _
   refine K8 _ _ ?_
   refine gs 4 (Amb S W) fun _ K23=>?_
   refine .mz rfl 0 (V:=pt z) rfl ?_
   refine .mz rfl 3 (V:=pt r) rfl ?_
   refine .mv rfl 0 ?_
   refine .mv rfl 1 ?_
   refine .dg (fun u=>pt z::.pointer (some ⟨b1,ob1,none⟩)::.pointer (some ⟨b2,ob2,none⟩)::pt r::U::U::U::U::u 2::u 3::u2 3::sq u2 0 3 (sq u3 0 4 (.tuple #[pt z,pt r]::sq u4 0 4 (sq u5 0 4 (U::U::U::U::sq u9 0 3 (.pointer (some ⟨z,0,none⟩)::sq u10 0 5 (.pointer (some ⟨r,0,none⟩)::u 0::u 1::[]))))))) K23 bel.size fun u11 w11 D=>?_
   have E11_2:=D.q 2
   have E11_3:=D.q 3
   replace F_z:=D.o L_z F_z
   replace F_r:=D.o L_r F_r
   replace bel:=bel.base D.d.base.grow.os D.d.base.grow.tape D.d.base.grow.output D.d.base.grow.size (fun k hk h1 h2=>D.d.base.block k (by omega) (by simp))
   clear D
   refine wp_ret ?_
   exact ret_ok rfl (by exact results_two rfl (by exact E11_2) (by exact E11_3)) ⟨rfl,(into_eq ((dm_b p1 dc10 dc13).1) F_z),(into_eq ((dm_b p1 dc10 dc13).2) F_r),bel⟩
 ·
  refine wp_cond_false ((E4_3).trans (congrArg Value.bool c10)) ?_
  have dc10:=of_decide_eq_false c10
  refine wp_skip ?_
  refine K8 _ _ ?_
  refine gs 4 (Amb S W) fun _ K24=>?_
  refine .mz rfl 0 (V:=pt z) rfl ?_
  refine .mz rfl 3 (V:=pt r) rfl ?_
  refine .mv rfl 0 ?_
  refine .mv rfl 1 ?_
  refine .dg (fun u=>pt z::.pointer (some ⟨b1,ob1,none⟩)::.pointer (some ⟨b2,ob2,none⟩)::pt r::U::U::U::U::u 2::u 3::u2 3::sq u2 0 3 (sq u3 0 4 (.tuple #[pt z,pt r]::sq u4 0 4 (U::U::U::U::U::U::U::U::U::U::U::U::U::U::U::U::U::U::u 0::u 1::[])))) K24 bel.size fun u12 w12 D=>?_
  have E12_2:=D.q 2
  have E12_3:=D.q 3
  replace F_z:=D.o L_z F_z
  replace F_r:=D.o L_r F_r
  replace bel:=bel.base D.d.base.grow.os D.d.base.grow.tape D.d.base.grow.output D.d.base.grow.size (fun k hk h1 h2=>D.d.base.block k (by omega) (by simp))
  clear D
  refine wp_ret ?_
  exact ret_ok rfl (by exact results_two rfl (by exact E12_2) (by exact E12_3)) ⟨rfl,(into_eq ((dm_c p1 dc10).1) F_z),(into_eq ((dm_c p1 dc10).2) F_r),bel⟩
theorem bDiv {z:Nat} {v1:Value} {v2:Value} (x:Int) (y:Int) (hz:IntBlk W z) (t1:(IntP x).p S v1 W) (t2:(IntP y).p S v2 W) (p0:hi x + hi y + 4 ≤ 1099511627776) (p1:y ≠ 0) :
  Calls Tryz.prog 181 #[.pointer (some ⟨z,0,none⟩),v1,v2] W (RetOwn z (IntO (x / y)) W):=by
 have hS_:∃ S' : Nat → Prop,S' z ∧ (IntP x).p S' v1 W ∧ (IntP y).p S' v2 W:=⟨fun k=>S k ∨ k = z,.inr rfl,(IntP x).mono (fun _ _ h=>.inl h) t1,(IntP y).mono (fun _ _ h=>.inl h) t2⟩
 clear t1 t2
 obtain ⟨S,L_z,t1,t2⟩:=hS_
 replace L_z:Amb S W z:=.inl L_z
 obtain ⟨z_0,z_1,B_z⟩:=hz
 obtain ⟨b1,ob1,rfl,L1,F1⟩:=IntP.elim t1
 replace L1:Amb S W b1:=.inl L1
 obtain ⟨b2,ob2,rfl,L2,F2⟩:=IntP.elim t2
 replace L2:Amb S W b2:=.inl L2
 have bel:Only z W W:=Only.refl _ _
 go_enter Tryz.func181,Tryz.ntmps181
 refine gs 1 (Amb S W) fun _ K3=>?_
 refine .mc rfl ?_
 refine .dg (fun u=>pt z::.pointer (some ⟨b1,ob1,none⟩)::.pointer (some ⟨b2,ob2,none⟩)::U::U::U::u 0::us 6) K3 bel.size fun u1 w1 D=>?_
 have E1_0:=D.q 0
 replace B_z:=D.k B_z
 replace F1:=D.o L1 F1
 replace F2:=D.o L2 F2
 replace bel:=D.d.base.only0 bel
 clear D
 refine wp_seq_k fun _ K4=>?_
 refine go2_seqT 4 1 rfl (Amb S W) [] [] (Olds.nil _) (by kernel_rfl) ?_
 refine .mz rfl 0 (V:=pt z) rfl ?_
 refine .mz rfl 1 (V:=.pointer (some ⟨b1,ob1,none⟩)) rfl ?_
 refine .mz rfl 2 (V:=.pointer (some ⟨b2,ob2,none⟩)) rfl ?_
 refine .al rfl zI ?_
 refine .dT (fun u=>pt z::.pointer (some ⟨b1,ob1,none⟩)::.pointer (some ⟨b2,ob2,none⟩)::U::U::U::u1 0::sq u 0 5 (U::[])) bel.size _ rfl fun u2 w2 D=>?_
 obtain ⟨b5,E2_3,A5,B5⟩:=D.nw 3
 have E2_0:=D.q 0
 have E2_1:=D.q 1
 have E2_2:=D.q 2
 have N_z_b5:=D.n1 3 (lt_of B_z) E2_3
 replace B_z:=D.k B_z
 replace F1:=D.o L1 F1
 replace F2:=D.o L2 F2
 replace bel:=D.d.base.only0 bel
 clear D
 refine wpT_callO2 (args:=#[pt z,.pointer (some ⟨b1,ob1,none⟩),.pointer (some ⟨b2,ob2,none⟩),pt b5]) rfl (ex_call rfl rfl Tryz.func202 (by kernel_rfl) (by kernel_rfl) (by simp only [List.map_toArray,List.map_cons,List.map_nil]; show #[(u2 0).v,(u2 1).v,(u2 2).v,(u2 3).v] = #[pt z,.pointer (some ⟨b1,ob1,none⟩),.pointer (some ⟨b2,ob2,none⟩),pt b5]; rw [E2_0,E2_1,E2_2,E2_3])) (bDivMod (z:=z) (x:=x) (y:=y) (r:=b5) (IntBlk.of B_z) (VP.any _ F1) (VP.any _ F2) (IntBlk.of B5) N_z_b5 (by first | omega | exact p1) (by first | omega | exact p1)) fun w6 fw6a fw6b ow6=>?_
 have sw6_z:Soft w2 z ∨ Local w2 z:=.inl ⟨_,_,B_z,rfl⟩
 have sw6_b5:Soft w2 b5 ∨ Local w2 b5:=.inl ⟨_,_,B5,rfl⟩
 have F_z:=fw6a
 have F5:=fw6b
 have L5:Amb S W b5:=.inr A5
 replace bel:=ow6.drop bel A5
 refine wpList_nil ?_
 show _
 refine K4 _ _ ?_
 refine gs 2 (Amb S W) fun _ K7=>?_
 refine .mz rfl 0 (V:=pt z) rfl ?_
 refine .mv rfl 0 ?_
 refine .dg (fun u=>pt z::.pointer (some ⟨b1,ob1,none⟩)::.pointer (some ⟨b2,ob2,none⟩)::U::U::U::u 1::sq u2 0 4 (.tuple #[pt z,pt b5]::u 0::[])) K7 bel.size fun u3 w3 D=>?_
 have E3_1:=D.q 1
 replace F_z:=D.o L_z F_z
 replace bel:=D.d.base.only0 bel
 clear D
 refine wp_ret ?_
 refine ret_ok rfl (by exact results_tmp' rfl (by exact E3_1)) ⟨rfl,?_,bel⟩
 exact F_z
theorem qNum {v0:Value} (q:Rat) (t0:(RatP q).p S v0 W) (p0:ht q ≤ 68719476736) :
  Calls Tryz.prog 164 #[v0] W (Ret (IntO q.num) S W):=by
 obtain ⟨b1,rfl,L1,F1⟩:=RatP.elim t0
 replace L1:Amb S W b1:=.inl L1
 have n0:=hi_num q
 have bel:=b0 W
 go_enter Tryz.func164,Tryz.ntmps164
 refine gs 1 (Amb S W) fun _ K2=>?_
 refine .mc rfl ?_
 refine .dk (fun u=>pt b1::U::u 0::us 5) K2 bel fun u1 w1 D bel=>?_
 have E1_0:=D.q 0
 replace F1:=D.o L1 F1
 clear D
 refine gs 6 (Amb S W) fun _ K3=>?_
 refine .al rfl zI ?_
 refine .mz rfl 0 (V:=pt b1) rfl ?_
 refine .nc rfl 1 ?_
 refine .fj rfl 2 0 ?_
 refine .cO rfl 0 Tryz.func128 (fun H h0 hz=>⟨_,ar2 (H.p 3 0 h0) (H.g 6 3),bSet _ (IntBlk.of hz) (RatP.num (VP.any _ (H.was _ [] (VP.at F1 L1)))) (by omega)⟩) ?_
 refine .mo rfl 4 ?_
 refine .dk (fun u=>pt b1::U::u 5::sq u 0 5 []) K3 bel fun u2 w2 D bel=>?_
 obtain ⟨b4,E2_5,A4,F4⟩:=D.ow 5
 have L4:Amb S W b4:=.inr A4
 clear D
 refine wp_ret ?_
 refine ret_ok rfl (by exact results_tmp' rfl (by exact E2_5)) ⟨_,rfl,?_,bel⟩
 exact (VP.at F4 L4)
theorem qDenom {v0:Value} (q:Rat) (t0:(RatP q).p S v0 W) (p0:ht q ≤ 68719476736) :
  Calls Tryz.prog 69 #[v0] W (Ret (IntO (q.den:Int)) S W):=by
 obtain ⟨b1,rfl,L1,F1⟩:=RatP.elim t0
 replace L1:Amb S W b1:=.inl L1
 have n0:=hi_den q
 have bel:=b0 W
 go_enter Tryz.func69,Tryz.ntmps69
 refine gs 1 (Amb S W) fun _ K2=>?_
 refine .mc rfl ?_
 refine .dk (fun u=>pt b1::U::u 0::us 4) K2 bel fun u1 w1 D bel=>?_
 have E1_0:=D.q 0
 replace F1:=D.o L1 F1
 clear D
 refine gs 5 (Amb S W) fun _ K3=>?_
 refine .al rfl zI ?_
 refine .mz rfl 0 (V:=pt b1) rfl ?_
 refine .cR rfl [] Tryz.func129 (fun H=>⟨_,ar1 (H.g 4 1),bDen _ (H.was _ [] (VP.at F1 L1))⟩) ?_
 refine .cO rfl 0 Tryz.func128 (fun H h0 hz=>⟨_,ar2 (H.p 3 0 h0) (H.r 5 2),bSet _ (IntBlk.of hz) (SV.any (H.a 2 rfl)) (by omega)⟩) ?_
 refine .mo rfl 3 ?_
 refine .dk (fun u=>pt b1::U::u 4::sq u 0 4 []) K3 bel fun u2 w2 D bel=>?_
 obtain ⟨b4,E2_4,A4,F4⟩:=D.ow 4
 have L4:Amb S W b4:=.inr A4
 clear D
 refine wp_ret ?_
 refine ret_ok rfl (by exact results_tmp' rfl (by exact E2_4)) ⟨_,rfl,?_,bel⟩
 exact (VP.at F4 L4)
theorem qSign {v0:Value} (q:Rat) (t0:(RatP q).p S v0 W) :
  Calls Tryz.prog 109 #[v0] W (RetV (.int .i64 q.num.sign) W):=by
 obtain ⟨b1,rfl,L1,F1⟩:=RatP.elim t0
 replace L1:Amb S W b1:=.inl L1
 have bel:=b0 W
 go_enter Tryz.func109,Tryz.ntmps109
 refine gs 1 (Amb S W) fun _ K2=>?_
 refine .mc rfl ?_
 refine .dk (fun u=>pt b1::U::u 0::us 4) K2 bel fun u1 w1 D bel=>?_
 have E1_0:=D.q 0
 replace F1:=D.o L1 F1
 clear D
 refine gs 5 (Amb S W) fun _ K3=>?_
 refine .mz rfl 0 (V:=pt b1) rfl ?_
 refine .nc rfl 0 ?_
 refine .fj rfl 1 0 ?_
 refine .cK rfl Tryz.func168 (fun H=>⟨_,ar1 (H.g 5 2),bSign _ (RatP.num (VP.any _ (H.was _ [] (VP.at F1 L1))))⟩) ?_
 refine .mv rfl 3 ?_
 refine .dk (fun u=>pt b1::U::u 4::sq u 0 4 []) K3 bel fun u2 w2 D bel=>?_
 have E2_4:=D.q 4
 clear D
 exact wp_ret (rt rfl E2_4 rfl bel)
theorem qIsInt {v0:Value} (q:Rat) (t0:(RatP q).p S v0 W) (p0:ht q ≤ 68719476736) :
  Calls Tryz.prog 131 #[v0] W (RetV (.bool (icmp (q.den:Int) (1:Int) == 0)) W):=by
 obtain ⟨b1,rfl,L1,F1⟩:=RatP.elim t0
 replace L1:Amb S W b1:=.inl L1
 have n0:=hi_den q
 have h4:hi 1 = 2:=by decide
 have bel:=b0 W
 go_enter Tryz.func131,Tryz.ntmps131
 refine gs 1 (Amb S W) fun _ K2=>?_
 refine .mc rfl ?_
 refine .dk (fun u=>pt b1::U::u 0::us 5) K2 bel fun u1 w1 D bel=>?_
 have E1_0:=D.q 0
 replace F1:=D.o L1 F1
 clear D
 refine gs 6 (Amb S W) fun _ K3=>?_
 refine .mz rfl 0 (V:=pt b1) rfl ?_
 refine .cR rfl [] Tryz.func129 (fun H=>⟨_,ar1 (H.g 3 0),bDen _ (H.was _ [] (VP.at F1 L1))⟩) ?_
 refine .cR rfl [] Tryz.func130 (fun H=>⟨_,ar1 (H.c (.int .i64 1)),bNewInt _ (by omega) (by omega)⟩) ?_
 refine .cK rfl Tryz.func177 (fun H=>⟨_,ar2 (H.r 4 1) (H.r 5 2),bCmp _ _ (SV.any (H.a 1 rfl)) (IntO.p (SV.any (H.a 2 rfl))) (by omega)⟩) ?_
 refine .e rfl (V:=.bool ((icmp (q.den:Int) (1:Int)) == 0)) (fun H=>x_cmp (H.g 6 3) (H.c _)) ?_
 refine .mv rfl 4 ?_
 refine .dk (fun u=>pt b1::U::u 5::sq u 0 5 []) K3 bel fun u2 w2 D bel=>?_
 have E2_5:=D.q 5
 clear D
 exact wp_ret (rt rfl E2_5 rfl bel)
theorem qCmp {v0:Value} {v1:Value} (x:Rat) (y:Rat) (t0:(RatP x).p S v0 W) (t1:(RatP y).p S v1 W) (p0:ht x + ht y ≤ 68719476736) :
  Calls Tryz.prog 138 #[v0,v1] W (RetV (.int .i64 (icmp (x.num * (y.den:Int)) (y.num * (x.den:Int)))) W):=by
 obtain ⟨b1,rfl,L1,F1⟩:=RatP.elim t0
 replace L1:Amb S W b1:=.inl L1
 obtain ⟨b2,rfl,L2,F2⟩:=RatP.elim t1
 replace L2:Amb S W b2:=.inl L2
 have n0:=hi_num x
 have n1:=hi_num y
 have n2:=hi_den x
 have n3:=hi_den y
 have m0:=hi_mul x.num (y.den:Int)
 have m1:=hi_mul y.num (x.den:Int)
 have bel:=b0 W
 go_enter Tryz.func138,Tryz.ntmps138
 refine gs 1 (Amb S W) fun _ K3=>?_
 refine .mc rfl ?_
 refine .dk (fun u=>pt b1::pt b2::U::U::u 0::us 15) K3 bel fun u1 w1 D bel=>?_
 have E1_0:=D.q 0
 replace F1:=D.o L1 F1
 replace F2:=D.o L2 F2
 clear D
 refine gd 16 (Amb S W) fun _ K4=>?_
 refine .al rfl zI ?_
 refine .mz rfl 0 (V:=pt b1) rfl ?_
 refine .nc rfl 1 ?_
 refine .fj rfl 2 0 ?_
 refine .mz rfl 1 (V:=pt b2) rfl ?_
 refine .cR rfl [] Tryz.func129 (fun H=>⟨_,ar1 (H.g 9 4),bDen _ (H.was _ [] (VP.at F2 L2))⟩) ?_
 refine .cO rfl 0 Tryz.func68 (fun H h0 hz=>⟨_,ar3 (H.p 5 0 h0) (H.g 8 3) (H.r 10 5),bMul _ _ (IntBlk.of hz) (RatP.num (VP.any _ (H.was _ [] (VP.at F1 L1)))) (SV.any (H.a 5 rfl)) (by omega)⟩) ?_
 refine .al rfl zI ?_
 refine .mz rfl 1 (V:=pt b2) rfl ?_
 refine .nc rfl 8 ?_
 refine .fj rfl 9 0 ?_
 refine .mz rfl 0 (V:=pt b1) rfl ?_
 refine .cR rfl [] Tryz.func129 (fun H=>⟨_,ar1 (H.g 16 11),bDen _ (H.was _ [] (VP.at F1 L1))⟩) ?_
 refine .cO rfl 7 Tryz.func68 (fun H h0 hz=>⟨_,ar3 (H.p 12 7 h0) (H.g 15 10) (H.r 17 12),bMul _ _ (IntBlk.of hz) (RatP.num (VP.any _ (H.was _ [] (VP.at F2 L2)))) (SV.any (H.a 12 rfl)) (by omega)⟩) ?_
 refine .cK rfl Tryz.func177 (fun H=>⟨_,ar2 (H.r 11 6) (H.r 18 13),bCmp _ _ (IntO.p (Own.any (H.a 6 rfl))) (IntO.p (Own.any (H.a 13 rfl))) (by omega)⟩) ?_
 refine .mv rfl 14 ?_
 refine .dk (fun u=>pt b1::pt b2::U::U::u 15::sq u 0 15 []) K4 bel fun u2 w2 D bel=>?_
 have E2_15:=D.q 15
 clear D
 exact wp_ret (rt rfl E2_15 rfl bel)
end Go.Proofs.YtllohoibifcmdaaGreat
namespace Go.Proofs.YtllohoibifcmdaaGreat.Rgn
open Go.RowKit
variable {P:Program} {ops:Array Oper} {a0:Act} {w0:World} {B0:Nat} {R0:Nat → Prop} {olds:List (Nat × Nat)} {F:List (Pl B0 R0 olds) → Prop}
theorem TodoG.storeSoft {k:Nat} {plan:List (Pl B0 R0 olds)} (i x z:Nat) (hi:plan.length = i) (o:Oper) (ho:ops[i]? = some o) (hg:o.guard = none) (hx:olds[x]? = some (z,i)) (hl:Soft w0 z) (hR:¬ R0 z) (s:SP B0 R0 olds)
  (h:∀ u w ρ,Here ops a0 olds w0 plan i u w ρ → ∃ w', (execOp ρ o).run P w = .ok .skip w' ∧ (∀ g,s.p (upd u i g) w') ∧ Only z w w')
  (rest:TodoG P ops a0 w0 F k (plan ++ [.op none s])):TodoG P ops a0 w0 F (k + 1) plan:=by
 subst hi
 refine ⟨.op none s,fun o' ho' u w ρ hE hB hO hf hbl=>.inr ⟨?_,?_⟩,rest⟩
 ·rw [ho] at ho'; cases ho'; exact wanted_none hg _
 ·rw [ho] at ho'; cases ho'
  obtain ⟨w', h1,h2,h3⟩:=h u w ρ ⟨hE,hB,hO,hf⟩
  refine .inr (.inl ⟨w', h1,h2 _,⟨h3.os,h3.tape,h3.output,h3.size,fun k hk=>?_⟩⟩)
  by_cases hkb:k = z
  ·subst hkb
   refine .inr (.inr ⟨⟨x,hx⟩,.inr ⟨?_,hR⟩⟩)
   unfold Soft
   rw [hO x k _ hx (.inl rfl)]
   exact hl
  ·exact .inl (h3.block k hk hkb)
theorem Go2.storeSoft {k i:Nat} {rp:List (Nat × Pl B0 R0 olds)} (x z:Nat) {o:Oper} (ho:ops[i]? = some o) (hg:o.guard = none) (hx:olds[x]? = some (z,i)) (hl:Soft w0 z) (hR:¬ R0 z) (s:SP B0 R0 olds)
  (h:∀ u w ρ,Here2 ops a0 olds w0 rp i u w ρ → ∃ w', (execOp ρ o).run P w = .ok .skip w' ∧ (∀ g,s.p (upd u i g) w') ∧ Only z w w')
  (rest:Go2 P ops a0 w0 F k (i + 1) ((i,.op none s) :: rp)):Go2 P ops a0 w0 F (k + 1) i rp:=fun hwf =>
 TodoG.storeSoft i x z hwf.len o ho hg hx hl hR s (fun u w ρ H=>h u w ρ ⟨H,hwf⟩) (Go2.next hwf rest)
end Go.Proofs.YtllohoibifcmdaaGreat.Rgn
namespace Go.Proofs.YtllohoibifcmdaaGreat
open Go.RowKit Rgn
def IntV (n:Int):VP:=VP.two (.is (.bool (decide (n < 0)))) (MagP n.natAbs)
theorem Rgn.SP.intV {B0:Nat} {R0:Nat → Prop} {olds:List (Nat × Nat)} {i:Nat} {near:List Nat} {n:Int} {a b:Nat} {u:Nat → Got} {w:World} {v:Value} (h:Mag w v n.natAbs) :
  (SP.val (B0:=B0) (R0:=R0) (olds:=olds) i near (IntV n)).p (upd u i ⟨.agg #[.bool (decide (n < 0)),v],a,b⟩) w:=by
 show (IntV n).p _ (upd u i _ i).v w
 rw [upd_same]; exact ⟨_,v,rfl,rfl,h⟩
theorem RatP.of {a b:Int} {q:Rat} (h:a = q.num) (h' : b = (q.den:Int)) {z:Nat} {w:World} {v1 v2:Value}
  (hB:w.heap[z]? = some (.cells #[.bool (decide (a < 0)),v1,.bool (decide (b < 0)),v2] 102 (0,0))) (h1:Mag w v1 a.natAbs) (h2:Mag w v2 b.natAbs) :
  (RatP q).p (· = z) (.pointer (some ⟨z,0,none⟩)) w:=by
 subst h; subst h'
 rw [decide_eq_false (show ¬ (q.den:Int) < 0 by omega)] at hB
 exact ⟨z,rfl,rfl,.inl ⟨v1,v2,hB,h1,h2⟩⟩
theorem sf_1 {a b:Int} (h:b < 0):a.tdiv (-(Int.gcd a b:Int)) = (Rat.divInt a b).num ∧ b.tdiv (-(Int.gcd a b:Int)) = ((Rat.divInt a b).den:Int):=by
 have hy:b ≠ 0:=by omega
 have ha:(-(Int.gcd a b:Int)) ∣ a:=Int.neg_dvd.2 (Int.gcd_dvd_left a b)
 have hb:(-(Int.gcd a b:Int)) ∣ b:=Int.neg_dvd.2 (Int.gcd_dvd_right a b)
 rw [Int.tdiv_eq_ediv_of_dvd ha,Int.tdiv_eq_ediv_of_dvd hb]
 have hs:b.sign = -1:=by have:=sign3 b; omega
 constructor
 ·rw [Rat.num_divInt,hs,Int.gcd_comm b a,Int.ediv_neg,Int.neg_one_mul,Int.neg_ediv_of_dvd (Int.gcd_dvd_left a b)]
 ·rw [Rat.den_divInt,if_neg hy,Int.gcd_comm b a,Int.natCast_ediv,Int.ediv_neg,show ((b.natAbs:Nat):Int) = -b by omega,Int.neg_ediv_of_dvd (Int.gcd_dvd_right a b)]
theorem sf_2 {a b:Int} (hy:b ≠ 0) (h:¬ b < 0):a.tdiv (Int.gcd a b:Int) = (Rat.divInt a b).num ∧ b.tdiv (Int.gcd a b:Int) = ((Rat.divInt a b).den:Int):=by
 rw [Int.tdiv_eq_ediv_of_dvd (Int.gcd_dvd_left a b),Int.tdiv_eq_ediv_of_dvd (Int.gcd_dvd_right a b)]
 have hs:b.sign = 1:=by have:=sign3 b; omega
 constructor
 ·rw [Rat.num_divInt,hs,Int.gcd_comm b a,Int.one_mul]
 ·rw [Rat.den_divInt,if_neg hy,Int.gcd_comm b a,Int.natCast_ediv,show ((b.natAbs:Nat):Int) = b by omega]
end Go.Proofs.YtllohoibifcmdaaGreat
namespace Go.Proofs.YtllohoibifcmdaaGreat
open Go.RowKit Rgn
set_option maxHeartbeats 4000000
set_option maxRecDepth 100000
variable {S:Nat → Prop} {W:World}
theorem qSetFrac {z:Nat} {v1:Value} {v2:Value} (x:Int) (y:Int) (hz:RatBlk W z) (t1:(IntP x).p S v1 W) (t2:(IntP y).p S v2 W) (p0:hi x + hi y + hi y + 8 ≤ 1099511627776) (p1:y ≠ 0) :
  Calls Tryz.prog 160 #[.pointer (some ⟨z,0,none⟩),v1,v2] W (RetOwn z (RatP (Rat.divInt x y)) W):=by
 have hS_:∃ S' : Nat → Prop,S' z ∧ (IntP x).p S' v1 W ∧ (IntP y).p S' v2 W:=⟨fun k=>S k ∨ k = z,.inr rfl,(IntP x).mono (fun _ _ h=>.inl h) t1,(IntP y).mono (fun _ _ h=>.inl h) t2⟩
 clear t1 t2
 obtain ⟨S,L_z,t1,t2⟩:=hS_
 replace L_z:Amb S W z:=.inl L_z
 obtain ⟨z_0,z_1,z_2,z_3,B_z⟩:=hz
 obtain ⟨b1,ob1,rfl,L1,F1⟩:=IntP.elim t1
 replace L1:Amb S W b1:=.inl L1
 obtain ⟨b2,ob2,rfl,L2,F2⟩:=IntP.elim t2
 replace L2:Amb S W b2:=.inl L2
 have g0:=hi_gcd (x:=x) p1
 have g1:=gcd_ne (x:=x) p1
 have g2:=hi_neg (Int.gcd x y:Int)
 have bel:Only z W W:=Only.refl _ _
 go_enter Tryz.func160,Tryz.ntmps160
 refine gs 1 (Amb S W) fun _ K3=>?_
 refine .mc rfl ?_
 refine .dg (fun u=>pt z::.pointer (some ⟨b1,ob1,none⟩)::.pointer (some ⟨b2,ob2,none⟩)::U::U::U::u 0::us 35) K3 bel.size fun u1 w1 D=>?_
 have E1_0:=D.q 0
 replace B_z:=D.k B_z
 replace F1:=D.o L1 F1
 replace F2:=D.o L2 F2
 replace bel:=D.d.base.only0 bel
 clear D
 refine gs 5 (Amb S W) fun _ K4=>?_
 refine .al rfl zI ?_
 refine .mz rfl 1 (V:=.pointer (some ⟨b1,ob1,none⟩)) rfl ?_
 refine .mz rfl 2 (V:=.pointer (some ⟨b2,ob2,none⟩)) rfl ?_
 refine .cO rfl 0 Tryz.func194 (fun H h0 hz=>⟨_,ar5 (H.p 10 0 h0) (H.c (.pointer none)) (H.c (.pointer none)) (H.g 11 1) (H.g 12 2),bGCD _ _ (IntBlk.of hz) (VP.any _ (H.was _ [] (VP.at F1 L1))) (VP.any _ (H.was _ [] (VP.at F2 L2))) (by omega)⟩) ?_
 refine .mo rfl 3 ?_
 refine .dg (fun u=>pt z::.pointer (some ⟨b1,ob1,none⟩)::.pointer (some ⟨b2,ob2,none⟩)::U::U::U::u1 0::u 4::U::U::sq u 0 4 (us 28)) K4 bel.size fun u2 w2 D=>?_
 obtain ⟨b5,E2_4,A5,F5⟩:=D.ow 4
 have N_z_b5:=D.n1 0 (lt_of B_z) ((D.a 4 rfl).1.symm.trans E2_4)
 have N1_5:=D.n1 0 (IntP.lt F1) ((D.a 4 rfl).1.symm.trans E2_4)
 have N2_5:=D.n1 0 (IntP.lt F2) ((D.a 4 rfl).1.symm.trans E2_4)
 replace B_z:=D.k B_z
 replace F1:=D.o L1 F1
 replace F2:=D.o L2 F2
 have L5:Amb S W b5:=.inr A5
 replace bel:=D.d.base.only0 bel
 clear D
 refine wp_seq_k fun _ K6=>?_
 refine gs 4 (Amb S W) fun _ K7=>?_
 refine .mz rfl 2 (V:=.pointer (some ⟨b2,ob2,none⟩)) rfl ?_
 refine .nc rfl 0 ?_
 refine .fj rfl 1 ob2 ?_
 refine .e rfl (V:=.bool (decide (y < 0))) (fun H=>by have e16:=H.g 16 2; have c1:=IntP.c0 (k:=ob2) (VP.any _ (H.was _ [] (VP.at F2 L2))) rfl; clear H; go_simp) ?_
 refine .dg (fun u=>pt z::.pointer (some ⟨b1,ob1,none⟩)::.pointer (some ⟨b2,ob2,none⟩)::U::U::U::u1 0::u2 4::U::U::sq u2 0 4 (sq u 0 4 (us 24))) K7 bel.size fun u3 w3 D=>?_
 have E3_3:=D.q 3
 replace B_z:=D.k B_z
 replace F1:=D.o L1 F1
 replace F2:=D.o L2 F2
 replace F5:=D.o L5 F5
 replace bel:=D.d.base.only0 bel
 clear D
 rcases Bool.eq_false_or_eq_true (decide (y < 0)) with c8 | c8
 ·
  refine wp_cond_true ((E3_3).trans (congrArg Value.bool c8)) ?_
  have dc8:=of_decide_eq_true c8
  refine go2_seqT 2 1 rfl (Amb S W) [] [] (Olds.nil _) (by kernel_rfl) ?_
  refine .mz rfl 7 E2_4 ?_
  refine .mz rfl 7 E2_4 ?_
  refine .dT (fun u=>pt z::.pointer (some ⟨b1,ob1,none⟩)::.pointer (some ⟨b2,ob2,none⟩)::U::U::U::u1 0::u2 4::U::U::sq u2 0 4 (sq u3 0 4 (sq u 0 3 (us 21)))) bel.size _ rfl fun u4 w4 D=>?_
  have E4_0:=D.q 0
  have E4_1:=D.q 1
  replace B_z:=D.k B_z
  replace F1:=D.o L1 F1
  replace F2:=D.o L2 F2
  replace F5:=D.o L5 F5
  replace bel:=D.d.base.only0 bel
  clear D
  refine wpT_callO (args:=#[pt b5,pt b5]) rfl (ex_call rfl rfl Tryz.func195 (by kernel_rfl) (by kernel_rfl) (by simp only [List.map_toArray,List.map_cons,List.map_nil]; show #[(u4 0).v,(u4 1).v] = #[pt b5,pt b5]; rw [E4_0,E4_1])) (bNeg (z:=b5) (x:=(Int.gcd x y:Int)) (IntO.blk F5) (IntO.p (VP.any _ F5)) (by omega)) fun w9 fw9 ow9=>?_
  have sw9:Soft w4 b5 ∨ Local w4 b5:=.inl (IntO.soft F5)
  replace B_z:=ow9.keep B_z N_z_b5
  replace F1:=ow9.one sw9 _ N1_5 F1
  replace F2:=ow9.one sw9 _ N2_5 F2
  have F5:=fw9
  have L5:Amb S W b5:=.inr A5
  replace bel:=Only.other ow9 A5 bel.size bel
  refine wpList_nil ?_
  show _
  refine K6 _ _ ?_
  refine gs 10 (Amb S W) fun _ K10=>?_
  refine .al rfl zI ?_
  refine .mz rfl 1 (V:=.pointer (some ⟨b1,ob1,none⟩)) rfl ?_
  refine .mz rfl 7 E2_4 ?_
  refine .cO rfl 0 Tryz.func196 (fun H h0 hz=>⟨_,ar3 (H.p 21 0 h0) (H.g 22 1) (H.g 23 2),bQuo _ _ (IntBlk.of hz) (VP.any _ (H.was _ [] (VP.at F1 L1))) (IntO.p (VP.any _ (H.was _ [] (VP.at F5 L5)))) (by omega) (by omega)⟩) ?_
  refine .al rfl zI ?_
  refine .mz rfl 2 (V:=.pointer (some ⟨b2,ob2,none⟩)) rfl ?_
  refine .mz rfl 7 E2_4 ?_
  refine .cO rfl 4 Tryz.func196 (fun H h0 hz=>⟨_,ar3 (H.p 25 4 h0) (H.g 26 5) (H.g 27 6),bQuo _ _ (IntBlk.of hz) (VP.any _ (H.was _ [] (VP.at F2 L2))) (IntO.p (VP.any _ (H.was _ [] (VP.at F5 L5)))) (by omega) (by omega)⟩) ?_
  refine .mo rfl 3 ?_
  refine .mo rfl 7 ?_
  refine .dg (fun u=>pt z::.pointer (some ⟨b1,ob1,none⟩)::.pointer (some ⟨b2,ob2,none⟩)::U::U::U::u1 0::u2 4::u 8::u 9::sq u2 0 4 (sq u3 0 4 (u4 0::u4 1::.pointer (some ⟨b5,0,none⟩)::sq u 0 8 (us 13)))) K10 bel.size fun u5 w5 D=>?_
  obtain ⟨b11,E5_8,A11,F11⟩:=D.ow 8
  obtain ⟨b12,E5_9,A12,F12⟩:=D.ow 9
  have N_z_b11:=D.n1 0 (lt_of B_z) ((D.a 8 rfl).1.symm.trans E5_8)
  have N5_11:=D.n1 0 (IntO.lt F5) ((D.a 8 rfl).1.symm.trans E5_8)
  have N_z_b12:=D.n1 4 (lt_of B_z) ((D.a 9 rfl).1.symm.trans E5_9)
  have N5_12:=D.n1 4 (IntO.lt F5) ((D.a 9 rfl).1.symm.trans E5_9)
  replace B_z:=D.k B_z
  have L11:Amb S W b11:=.inr A11
  have L12:Amb S W b12:=.inr A12
  replace bel:=D.d.base.only0 bel
  clear D
  refine wp_seq_k fun _ K13=>?_
  refine go2_drawnT (by kernel_rfl) 13 1 rfl (by decide) (by kernel_rfl) (fun k=>Amb S W k ∧ k ≠ z) [(z,10)] [10] (Olds.one (lt_of B_z)) (by kernel_rfl) ?_
  refine .mz rfl 0 (V:=pt z) rfl ?_
  refine .mz rfl 0 (V:=pt z) rfl ?_
  refine .mz rfl 8 E5_8 ?_
  refine .nc rfl 2 ?_
  refine Go2.fn (i:=4) rfl (G0 rfl) (.val 4 [] (IntV (x.tdiv (-(Int.gcd x y:Int))))) (fun u μ ρ H=>by have e32:=H.g 32 3; obtain ⟨v_,hB_,hm_⟩:=IntO.at (VP.any _ (H.was _ [] (VP.at F11 (And.intro L11 (Ne.symm N_z_b11))))); exact ⟨_,ex_load_row 98 _ rfl e32 hB_ Tryz.underlying98 rfl (by kernel_rfl),SP.intV hm_⟩) ?_
  refine .mz rfl 9 E5_9 ?_
  refine .nc rfl 5 ?_
  refine Go2.fn (i:=7) rfl (G0 rfl) (.val 7 [] (IntV (y.tdiv (-(Int.gcd x y:Int))))) (fun u μ ρ H=>by have e35:=H.g 35 6; obtain ⟨v_,hB_,hm_⟩:=IntO.at (VP.any _ (H.was _ [] (VP.at F12 (And.intro L12 (Ne.symm N_z_b12))))); exact ⟨_,ex_load_row 98 _ rfl e35 hB_ Tryz.underlying98 rfl (by kernel_rfl),SP.intV hm_⟩) ?_
  refine .nc rfl 0 ?_
  refine .fj rfl 8 0 ?_
  refine Go2.storeSoft (i:=10) 0 z rfl rfl rfl ⟨_,_,B_z,rfl⟩ (fun h=>h.2 rfl) (SP.old 0 z [4] (fun u=>#[.bool (decide ((x.tdiv (-(Int.gcd x y:Int))) < 0)),((u 4).v.cells.getD 1 undef),z_2,z_3]) 102 (by intro u u' h; simp [h 4 (by simp)]) (lt_of B_z) (by intro y k hy; match y,hy with | 0,hy=>rfl)) (fun u μ ρ H=>?_) ?_
  · have e38:=H.g 38 9; have e33:=H.r 33 4; have hb:=H.blkOld B_z 0 10 rfl (.inl rfl)
    obtain ⟨x1,x2,h1,h2,h3⟩:=(H.a 4 rfl)
    obtain rfl:x1 = _:=h2
    have o2:=VP1.mag h3
    rw [h1] at e33
    refine ⟨μ.setRow z #[.bool (decide ((x.tdiv (-(Int.gcd x y:Int))) < 0)),x2,z_2,z_3],ex_store_part 98 _ _ rfl e38 e33 hb (by kernel_rfl) (by simp) (by simp [o2] <;> rfl) (by simp),fun g=>?_,setRow_only _ _ _⟩
    show (World.setRow _ _ _).heap[z]? = _
    rw [setRow_at hb]; try simp [upd,h1,Value.cells]
  refine .nc rfl 1 ?_
  refine .fj rfl 11 2 ?_
  refine .dT (fun u=>pt z::.pointer (some ⟨b1,ob1,none⟩)::.pointer (some ⟨b2,ob2,none⟩)::U::U::U::u1 0::u2 4::u5 8::u5 9::sq u2 0 4 (sq u3 0 4 (u4 0::u4 1::.pointer (some ⟨b5,0,none⟩)::sq u5 0 8 (sq u 0 10 (u 11::u 12::U::[]))))) bel.size _ rfl fun u6 w6 D=>?_
  obtain ⟨x14,x15,E6_4,e_,F_x15⟩:=(D.rz 4)
  obtain rfl:x14 = _:=e_
  replace F_x15:(MagP (x.tdiv (-(Int.gcd x y:Int))).natAbs).p (Amb S W) x15 w6:=F_x15
  obtain ⟨x16,x17,E6_7,e_,F_x17⟩:=(D.rz 7)
  obtain rfl:x16 = _:=e_
  replace F_x17:(MagP (y.tdiv (-(Int.gcd x y:Int))).natAbs).p (Amb S W) x17 w6:=F_x17
  have E6_12:=D.q 12
  replace B_z:w6.heap[z]? = _:=(D.a 10 rfl)
  simp only [Value.cells,E6_4,E6_7] at B_z
  replace bel:=bel.trans ⟨D.d.base.grow.os,D.d.base.grow.tape,D.d.base.grow.output,D.d.base.grow.size,fun k hk hz=>D.d.base.block k hk (fun x_ i_ hx_=>by have h_:=List.mem_of_getElem? hx_; simp at h_; exact hz h_.1)⟩
  clear D
  have o1_:=VP1.mag F_x17
  refine wpT_skip rfl (ex_store_part 98 _ _ rfl (by exact E6_12) (by exact E6_7) B_z (by kernel_rfl) (by simp) (by simp [o1_] <;> rfl) (vs:=#[.bool (decide ((x.tdiv (-(Int.gcd x y:Int))) < 0)),x15,.bool (decide ((y.tdiv (-(Int.gcd x y:Int))) < 0)),x17]) (by simp)) ?_
  have ow18:=setRow_only w6 z #[.bool (decide ((x.tdiv (-(Int.gcd x y:Int))) < 0)),x15,.bool (decide ((y.tdiv (-(Int.gcd x y:Int))) < 0)),x17]
  have sw18:Soft w6 z ∨ Local w6 z:=.inl ⟨_,_,B_z,rfl⟩
  replace B_z:=setRow_at (c' := #[.bool (decide ((x.tdiv (-(Int.gcd x y:Int))) < 0)),x15,.bool (decide ((y.tdiv (-(Int.gcd x y:Int))) < 0)),x17]) B_z
  replace F_x15:=(MagP ((x.tdiv (-(Int.gcd x y:Int))).natAbs)).grow (S:=fun _=>False) (Rgn.Only.growF ow18 sw18) F_x15
  replace F_x17:=(MagP ((y.tdiv (-(Int.gcd x y:Int))).natAbs)).grow (S:=fun _=>False) (Rgn.Only.growF ow18 sw18) F_x17
  replace bel:=bel.trans ow18
  obtain ⟨w18,hw18⟩:∃ x_,x_ = w6.setRow z #[.bool (decide ((x.tdiv (-(Int.gcd x y:Int))) < 0)),x15,.bool (decide ((y.tdiv (-(Int.gcd x y:Int))) < 0)),x17]:=⟨_,rfl⟩
  rw [← hw18] at B_z
  rw [← hw18] at F_x15
  rw [← hw18] at F_x17
  rw [← hw18] at bel
  rw [← hw18]
  clear hw18
  refine wpList_nil ?_
  show _
  refine K13 _ _ ?_
  refine gs 2 (Amb S W) fun _ K19=>?_
  refine .mz rfl 0 (V:=pt z) rfl ?_
  refine .mv rfl 0 ?_
  refine .dg (fun u=>pt z::.pointer (some ⟨b1,ob1,none⟩)::.pointer (some ⟨b2,ob2,none⟩)::U::U::U::u 1::u2 4::u5 8::u5 9::sq u2 0 4 (sq u3 0 4 (u4 0::u4 1::.pointer (some ⟨b5,0,none⟩)::sq u5 0 8 (sq u6 0 10 (u6 11::u6 12::u 0::[]))))) K19 bel.size fun u7 w7 D=>?_
  have E7_1:=D.q 1
  replace B_z:=D.k B_z
  replace F_x15:=D.gr (MagP ((x.tdiv (-(Int.gcd x y:Int))).natAbs)) F_x15
  replace F_x17:=D.gr (MagP ((y.tdiv (-(Int.gcd x y:Int))).natAbs)) F_x17
  replace bel:=D.d.base.only0 bel
  clear D
  refine wp_ret ?_
  exact ret_ok rfl (by exact results_tmp' rfl (by exact E7_1)) ⟨rfl,RatP.of ((sf_1 dc8).1) ((sf_1 dc8).2) B_z F_x15 F_x17,bel⟩
 ·
  refine wp_cond_false ((E3_3).trans (congrArg Value.bool c8)) ?_
  have dc8:=of_decide_eq_false c8
  refine wp_skip ?_
  refine K6 _ _ ?_
  refine gs 10 (Amb S W) fun _ K20=>?_
  refine .al rfl zI ?_
  refine .mz rfl 1 (V:=.pointer (some ⟨b1,ob1,none⟩)) rfl ?_
  refine .mz rfl 7 E2_4 ?_
  refine .cO rfl 0 Tryz.func196 (fun H h0 hz=>⟨_,ar3 (H.p 21 0 h0) (H.g 22 1) (H.g 23 2),bQuo _ _ (IntBlk.of hz) (VP.any _ (H.was _ [] (VP.at F1 L1))) (IntO.p (VP.any _ (H.was _ [] (VP.at F5 L5)))) (by omega) (by omega)⟩) ?_
  refine .al rfl zI ?_
  refine .mz rfl 2 (V:=.pointer (some ⟨b2,ob2,none⟩)) rfl ?_
  refine .mz rfl 7 E2_4 ?_
  refine .cO rfl 4 Tryz.func196 (fun H h0 hz=>⟨_,ar3 (H.p 25 4 h0) (H.g 26 5) (H.g 27 6),bQuo _ _ (IntBlk.of hz) (VP.any _ (H.was _ [] (VP.at F2 L2))) (IntO.p (VP.any _ (H.was _ [] (VP.at F5 L5)))) (by omega) (by omega)⟩) ?_
  refine .mo rfl 3 ?_
  refine .mo rfl 7 ?_
  refine .dg (fun u=>pt z::.pointer (some ⟨b1,ob1,none⟩)::.pointer (some ⟨b2,ob2,none⟩)::U::U::U::u1 0::u2 4::u 8::u 9::sq u2 0 4 (sq u3 0 4 (U::U::U::sq u 0 8 (us 13)))) K20 bel.size fun u8 w8 D=>?_
  obtain ⟨b21,E8_8,A21,F21⟩:=D.ow 8
  obtain ⟨b22,E8_9,A22,F22⟩:=D.ow 9
  have N_z_b21:=D.n1 0 (lt_of B_z) ((D.a 8 rfl).1.symm.trans E8_8)
  have N5_21:=D.n1 0 (IntO.lt F5) ((D.a 8 rfl).1.symm.trans E8_8)
  have N_z_b22:=D.n1 4 (lt_of B_z) ((D.a 9 rfl).1.symm.trans E8_9)
  have N5_22:=D.n1 4 (IntO.lt F5) ((D.a 9 rfl).1.symm.trans E8_9)
  replace B_z:=D.k B_z
  have L21:Amb S W b21:=.inr A21
  have L22:Amb S W b22:=.inr A22
  replace bel:=D.d.base.only0 bel
  clear D
  refine wp_seq_k fun _ K23=>?_
  refine go2_drawnT (by kernel_rfl) 13 1 rfl (by decide) (by kernel_rfl) (fun k=>Amb S W k ∧ k ≠ z) [(z,10)] [10] (Olds.one (lt_of B_z)) (by kernel_rfl) ?_
  refine .mz rfl 0 (V:=pt z) rfl ?_
  refine .mz rfl 0 (V:=pt z) rfl ?_
  refine .mz rfl 8 E8_8 ?_
  refine .nc rfl 2 ?_
  refine Go2.fn (i:=4) rfl (G0 rfl) (.val 4 [] (IntV (x.tdiv (Int.gcd x y:Int)))) (fun u μ ρ H=>by have e32:=H.g 32 3; obtain ⟨v_,hB_,hm_⟩:=IntO.at (VP.any _ (H.was _ [] (VP.at F21 (And.intro L21 (Ne.symm N_z_b21))))); exact ⟨_,ex_load_row 98 _ rfl e32 hB_ Tryz.underlying98 rfl (by kernel_rfl),SP.intV hm_⟩) ?_
  refine .mz rfl 9 E8_9 ?_
  refine .nc rfl 5 ?_
  refine Go2.fn (i:=7) rfl (G0 rfl) (.val 7 [] (IntV (y.tdiv (Int.gcd x y:Int)))) (fun u μ ρ H=>by have e35:=H.g 35 6; obtain ⟨v_,hB_,hm_⟩:=IntO.at (VP.any _ (H.was _ [] (VP.at F22 (And.intro L22 (Ne.symm N_z_b22))))); exact ⟨_,ex_load_row 98 _ rfl e35 hB_ Tryz.underlying98 rfl (by kernel_rfl),SP.intV hm_⟩) ?_
  refine .nc rfl 0 ?_
  refine .fj rfl 8 0 ?_
  refine Go2.storeSoft (i:=10) 0 z rfl rfl rfl ⟨_,_,B_z,rfl⟩ (fun h=>h.2 rfl) (SP.old 0 z [4] (fun u=>#[.bool (decide ((x.tdiv (Int.gcd x y:Int)) < 0)),((u 4).v.cells.getD 1 undef),z_2,z_3]) 102 (by intro u u' h; simp [h 4 (by simp)]) (lt_of B_z) (by intro y k hy; match y,hy with | 0,hy=>rfl)) (fun u μ ρ H=>?_) ?_
  · have e38:=H.g 38 9; have e33:=H.r 33 4; have hb:=H.blkOld B_z 0 10 rfl (.inl rfl)
    obtain ⟨x1,x2,h1,h2,h3⟩:=(H.a 4 rfl)
    obtain rfl:x1 = _:=h2
    have o2:=VP1.mag h3
    rw [h1] at e33
    refine ⟨μ.setRow z #[.bool (decide ((x.tdiv (Int.gcd x y:Int)) < 0)),x2,z_2,z_3],ex_store_part 98 _ _ rfl e38 e33 hb (by kernel_rfl) (by simp) (by simp [o2] <;> rfl) (by simp),fun g=>?_,setRow_only _ _ _⟩
    show (World.setRow _ _ _).heap[z]? = _
    rw [setRow_at hb]; try simp [upd,h1,Value.cells]
  refine .nc rfl 1 ?_
  refine .fj rfl 11 2 ?_
  refine .dT (fun u=>pt z::.pointer (some ⟨b1,ob1,none⟩)::.pointer (some ⟨b2,ob2,none⟩)::U::U::U::u1 0::u2 4::u8 8::u8 9::sq u2 0 4 (sq u3 0 4 (U::U::U::sq u8 0 8 (sq u 0 10 (u 11::u 12::U::[]))))) bel.size _ rfl fun u9 w9 D=>?_
  obtain ⟨x24,x25,E9_4,e_,F_x25⟩:=(D.rz 4)
  obtain rfl:x24 = _:=e_
  replace F_x25:(MagP (x.tdiv (Int.gcd x y:Int)).natAbs).p (Amb S W) x25 w9:=F_x25
  obtain ⟨x26,x27,E9_7,e_,F_x27⟩:=(D.rz 7)
  obtain rfl:x26 = _:=e_
  replace F_x27:(MagP (y.tdiv (Int.gcd x y:Int)).natAbs).p (Amb S W) x27 w9:=F_x27
  have E9_12:=D.q 12
  replace B_z:w9.heap[z]? = _:=(D.a 10 rfl)
  simp only [Value.cells,E9_4,E9_7] at B_z
  replace bel:=bel.trans ⟨D.d.base.grow.os,D.d.base.grow.tape,D.d.base.grow.output,D.d.base.grow.size,fun k hk hz=>D.d.base.block k hk (fun x_ i_ hx_=>by have h_:=List.mem_of_getElem? hx_; simp at h_; exact hz h_.1)⟩
  clear D
  have o1_:=VP1.mag F_x27
  refine wpT_skip rfl (ex_store_part 98 _ _ rfl (by exact E9_12) (by exact E9_7) B_z (by kernel_rfl) (by simp) (by simp [o1_] <;> rfl) (vs:=#[.bool (decide ((x.tdiv (Int.gcd x y:Int)) < 0)),x25,.bool (decide ((y.tdiv (Int.gcd x y:Int)) < 0)),x27]) (by simp)) ?_
  have ow28:=setRow_only w9 z #[.bool (decide ((x.tdiv (Int.gcd x y:Int)) < 0)),x25,.bool (decide ((y.tdiv (Int.gcd x y:Int)) < 0)),x27]
  have sw28:Soft w9 z ∨ Local w9 z:=.inl ⟨_,_,B_z,rfl⟩
  replace B_z:=setRow_at (c' := #[.bool (decide ((x.tdiv (Int.gcd x y:Int)) < 0)),x25,.bool (decide ((y.tdiv (Int.gcd x y:Int)) < 0)),x27]) B_z
  replace F_x25:=(MagP ((x.tdiv (Int.gcd x y:Int)).natAbs)).grow (S:=fun _=>False) (Rgn.Only.growF ow28 sw28) F_x25
  replace F_x27:=(MagP ((y.tdiv (Int.gcd x y:Int)).natAbs)).grow (S:=fun _=>False) (Rgn.Only.growF ow28 sw28) F_x27
  replace bel:=bel.trans ow28
  obtain ⟨w28,hw28⟩:∃ x_,x_ = w9.setRow z #[.bool (decide ((x.tdiv (Int.gcd x y:Int)) < 0)),x25,.bool (decide ((y.tdiv (Int.gcd x y:Int)) < 0)),x27]:=⟨_,rfl⟩
  rw [← hw28] at B_z
  rw [← hw28] at F_x25
  rw [← hw28] at F_x27
  rw [← hw28] at bel
  rw [← hw28]
  clear hw28
  refine wpList_nil ?_
  show _
  refine K23 _ _ ?_
  refine gs 2 (Amb S W) fun _ K29=>?_
  refine .mz rfl 0 (V:=pt z) rfl ?_
  refine .mv rfl 0 ?_
  refine .dg (fun u=>pt z::.pointer (some ⟨b1,ob1,none⟩)::.pointer (some ⟨b2,ob2,none⟩)::U::U::U::u 1::u2 4::u8 8::u8 9::sq u2 0 4 (sq u3 0 4 (U::U::U::sq u8 0 8 (sq u9 0 10 (u9 11::u9 12::u 0::[]))))) K29 bel.size fun u10 w10 D=>?_
  have E10_1:=D.q 1
  replace B_z:=D.k B_z
  replace F_x25:=D.gr (MagP ((x.tdiv (Int.gcd x y:Int)).natAbs)) F_x25
  replace F_x27:=D.gr (MagP ((y.tdiv (Int.gcd x y:Int)).natAbs)) F_x27
  replace bel:=D.d.base.only0 bel
  clear D
  refine wp_ret ?_
  exact ret_ok rfl (by exact results_tmp' rfl (by exact E10_1)) ⟨rfl,RatP.of ((sf_2 p1 dc8).1) ((sf_2 p1 dc8).2) B_z F_x25 F_x27,bel⟩
theorem qMul {z:Nat} {v1:Value} {v2:Value} (x:Rat) (y:Rat) (hz:RatBlk W z) (t1:(RatP x).p S v1 W) (t2:(RatP y).p S v2 W) (p0:ht x + ht y ≤ 68719476736) :
  Calls Tryz.prog 124 #[.pointer (some ⟨z,0,none⟩),v1,v2] W (RetOwn z (RatP (x * y)) W):=by
 have hS_:∃ S' : Nat → Prop,S' z ∧ (RatP x).p S' v1 W ∧ (RatP y).p S' v2 W:=⟨fun k=>S k ∨ k = z,.inr rfl,(RatP x).mono (fun _ _ h=>.inl h) t1,(RatP y).mono (fun _ _ h=>.inl h) t2⟩
 clear t1 t2
 obtain ⟨S,L_z,t1,t2⟩:=hS_
 replace L_z:Amb S W z:=.inl L_z
 obtain ⟨z_0,z_1,z_2,z_3,B_z⟩:=hz
 obtain ⟨b1,rfl,L1,F1⟩:=RatP.elim t1
 replace L1:Amb S W b1:=.inl L1
 obtain ⟨b2,rfl,L2,F2⟩:=RatP.elim t2
 replace L2:Amb S W b2:=.inl L2
 have n0:=hi_num x
 have n1:=hi_num y
 have n2:=hi_den x
 have n3:=hi_den y
 have m0:=hi_mul x.num y.num
 have m2:=hi_mul (x.den:Int) (y.den:Int)
 have bel:Only z W W:=Only.refl _ _
 go_enter Tryz.func124,Tryz.ntmps124
 refine gs 1 (Amb S W) fun _ K3=>?_
 refine .mc rfl ?_
 refine .dg (fun u=>pt z::pt b1::pt b2::U::U::U::u 0::us 16) K3 bel.size fun u1 w1 D=>?_
 have E1_0:=D.q 0
 replace B_z:=D.k B_z
 replace F1:=D.o L1 F1
 replace F2:=D.o L2 F2
 replace bel:=D.d.base.only0 bel
 clear D
 refine wp_seq_k fun _ K4=>?_
 refine go2_drawnT (by kernel_rfl) 15 2 rfl (by decide) (by kernel_rfl) (Amb S W) [] [] (Olds.nil _) (by kernel_rfl) ?_
 refine .mz rfl 0 (V:=pt z) rfl ?_
 refine .al rfl zI ?_
 refine .mz rfl 1 (V:=pt b1) rfl ?_
 refine .nc rfl 2 ?_
 refine .fj rfl 3 0 ?_
 refine .mz rfl 2 (V:=pt b2) rfl ?_
 refine .nc rfl 5 ?_
 refine .fj rfl 6 0 ?_
 refine .cO rfl 1 Tryz.func68 (fun H h0 hz=>⟨_,ar3 (H.p 8 1 h0) (H.g 11 4) (H.g 14 7),bMul _ _ (IntBlk.of hz) (RatP.num (VP.any _ (H.was _ [] (VP.at F1 L1)))) (RatP.num (VP.any _ (H.was _ [] (VP.at F2 L2)))) (by first | omega | exact den_mul_ne _ _)⟩) ?_
 refine .al rfl zI ?_
 refine .mz rfl 1 (V:=pt b1) rfl ?_
 refine .cR rfl [] Tryz.func129 (fun H=>⟨_,ar1 (H.g 17 10),bDen _ (H.was _ [] (VP.at F1 L1))⟩) ?_
 refine .mz rfl 2 (V:=pt b2) rfl ?_
 refine .cR rfl [] Tryz.func129 (fun H=>⟨_,ar1 (H.g 19 12),bDen _ (H.was _ [] (VP.at F2 L2))⟩) ?_
 refine .cO rfl 9 Tryz.func68 (fun H h0 hz=>⟨_,ar3 (H.p 16 9 h0) (H.r 18 11) (H.r 20 13),bMul _ _ (IntBlk.of hz) (SV.any (H.a 11 rfl)) (SV.any (H.a 13 rfl)) (by first | omega | exact den_mul_ne _ _)⟩) ?_
 refine .dT (fun u=>pt z::pt b1::pt b2::U::U::U::u 16::sq u 0 16 []) bel.size _ rfl fun u2 w2 D=>?_
 obtain ⟨b5,E2_8,A5,F5⟩:=D.ow 8
 obtain ⟨b6,E2_14,A6,F6⟩:=D.ow 14
 have E2_0:=D.q 0
 have N_z_b5:=D.n1 1 (lt_of B_z) ((D.a 8 rfl).1.symm.trans E2_8)
 have N_z_b6:=D.n1 9 (lt_of B_z) ((D.a 14 rfl).1.symm.trans E2_14)
 replace B_z:=D.k B_z
 have L5:Amb S W b5:=.inr A5
 have L6:Amb S W b6:=.inr A6
 replace bel:=D.d.base.only0 bel
 clear D
 refine wpT_callO (args:=#[pt z,pt b5,pt b6]) rfl (ex_call rfl rfl Tryz.func160 (by kernel_rfl) (by kernel_rfl) (by simp only [List.map_toArray,List.map_cons,List.map_nil]; show #[(u2 0).v,(u2 8).v,(u2 14).v] = #[pt z,pt b5,pt b6]; rw [E2_0,E2_8,E2_14])) (qSetFrac (z:=z) (x:=x.num * y.num) (y:=(x.den:Int) * (y.den:Int)) (RatBlk.of B_z) (IntO.p (VP.any _ F5)) (IntO.p (VP.any _ F6)) (by first | omega | exact den_mul_ne _ _) (by first | omega | exact den_mul_ne _ _)) fun w7 fw7 ow7=>?_
 have sw7:Soft w2 z ∨ Local w2 z:=.inl ⟨_,_,B_z,rfl⟩
 replace F5:=ow7.one sw7 _ (Ne.symm N_z_b5) F5
 replace F6:=ow7.one sw7 _ (Ne.symm N_z_b6) F6
 have F_z:=fw7
 replace bel:=bel.trans ow7
 refine wpT_val rfl (ex_assign rfl) ?_
 refine wpList_nil ?_
 show _
 refine K4 _ _ ?_
 refine wp_ret ?_
 refine ret_ok rfl (by exact results_tmp' rfl rfl) ⟨rfl,?_,bel⟩
 exact rat_eq (fr_times x y) F_z
theorem qInv {z:Nat} {v1:Value} (x:Rat) (hz:RatBlk W z) (t1:(RatP x).p S v1 W) (p0:ht x ≤ 68719476736) (p1:x ≠ 0) :
  Calls Tryz.prog 112 #[.pointer (some ⟨z,0,none⟩),v1] W (RetOwn z (RatP (x⁻¹)) W):=by
 have hS_:∃ S' : Nat → Prop,S' z ∧ (RatP x).p S' v1 W:=⟨fun k=>S k ∨ k = z,.inr rfl,(RatP x).mono (fun _ _ h=>.inl h) t1⟩
 clear t1
 obtain ⟨S,L_z,t1⟩:=hS_
 replace L_z:Amb S W z:=.inl L_z
 obtain ⟨z_0,z_1,z_2,z_3,B_z⟩:=hz
 obtain ⟨b1,rfl,L1,F1⟩:=RatP.elim t1
 replace L1:Amb S W b1:=.inl L1
 have n0:=hi_num x
 have n2:=hi_den x
 have bel:Only z W W:=Only.refl _ _
 go_enter Tryz.func112,Tryz.ntmps112
 refine gs 1 (Amb S W) fun _ K2=>?_
 refine .mc rfl ?_
 refine .dg (fun u=>pt z::pt b1::U::U::u 0::us 7) K2 bel.size fun u1 w1 D=>?_
 have E1_0:=D.q 0
 replace B_z:=D.k B_z
 replace F1:=D.o L1 F1
 replace bel:=D.d.base.only0 bel
 clear D
 refine wp_seq_k fun _ K3=>?_
 refine go2_drawnT (by kernel_rfl) 6 2 rfl (by decide) (by kernel_rfl) (Amb S W) [] [] (Olds.nil _) (by kernel_rfl) ?_
 refine .mz rfl 0 (V:=pt z) rfl ?_
 refine .mz rfl 1 (V:=pt b1) rfl ?_
 refine .cR rfl [] Tryz.func129 (fun H=>⟨_,ar1 (H.g 6 1),bDen _ (H.was _ [] (VP.at F1 L1))⟩) ?_
 refine .mz rfl 1 (V:=pt b1) rfl ?_
 refine .nc rfl 3 ?_
 refine .fj rfl 4 0 ?_
 refine .dT (fun u=>pt z::pt b1::U::U::u 7::sq u 0 7 []) bel.size _ rfl fun u2 w2 D=>?_
 obtain ⟨b4,ob4,E2_2,L4,F4⟩:=IntP.elim (D.rr 2)
 have E2_0:=D.q 0
 have E2_5:=D.q 5
 replace B_z:=D.k B_z
 replace F1:=D.o L1 F1
 replace bel:=D.d.base.only0 bel
 clear D
 refine wpT_callO (args:=#[pt z,.pointer (some ⟨b4,ob4,none⟩),pt b1]) rfl (ex_call rfl rfl Tryz.func160 (by kernel_rfl) (by kernel_rfl) (by simp only [List.map_toArray,List.map_cons,List.map_nil]; show #[(u2 0).v,(u2 2).v,(u2 5).v] = #[pt z,.pointer (some ⟨b4,ob4,none⟩),pt b1]; rw [E2_0,E2_2,E2_5])) (qSetFrac (z:=z) (x:=(x.den:Int)) (y:=x.num) (RatBlk.of B_z) (VP.any _ F4) (RatP.num (VP.any _ F1)) (by first | omega | exact (fun e=>p1 (Rat.num_eq_zero.1 e))) (by first | omega | exact (fun e=>p1 (Rat.num_eq_zero.1 e)))) fun w5 fw5 ow5=>?_
 have sw5:Soft w2 z ∨ Local w2 z:=.inl ⟨_,_,B_z,rfl⟩
 have F_z:=fw5
 replace bel:=bel.trans ow5
 refine wpT_val rfl (ex_assign rfl) ?_
 refine wpList_nil ?_
 show _
 refine K3 _ _ ?_
 refine wp_ret ?_
 refine ret_ok rfl (by exact results_tmp' rfl rfl) ⟨rfl,?_,bel⟩
 exact rat_eq ((Rat.inv_def x).symm) F_z
theorem qAdd {z:Nat} {v1:Value} {v2:Value} (x:Rat) (y:Rat) (hz:RatBlk W z) (t1:(RatP x).p S v1 W) (t2:(RatP y).p S v2 W) (p0:ht x + ht y ≤ 68719476736) :
  Calls Tryz.prog 94 #[.pointer (some ⟨z,0,none⟩),v1,v2] W (RetOwn z (RatP (x + y)) W):=by
 have hS_:∃ S' : Nat → Prop,S' z ∧ (RatP x).p S' v1 W ∧ (RatP y).p S' v2 W:=⟨fun k=>S k ∨ k = z,.inr rfl,(RatP x).mono (fun _ _ h=>.inl h) t1,(RatP y).mono (fun _ _ h=>.inl h) t2⟩
 clear t1 t2
 obtain ⟨S,L_z,t1,t2⟩:=hS_
 replace L_z:Amb S W z:=.inl L_z
 obtain ⟨z_0,z_1,z_2,z_3,B_z⟩:=hz
 obtain ⟨b1,rfl,L1,F1⟩:=RatP.elim t1
 replace L1:Amb S W b1:=.inl L1
 obtain ⟨b2,rfl,L2,F2⟩:=RatP.elim t2
 replace L2:Amb S W b2:=.inl L2
 have n0:=hi_num x
 have n1:=hi_num y
 have n2:=hi_den x
 have n3:=hi_den y
 have m0:=hi_mul x.num (y.den:Int)
 have m1:=hi_mul y.num (x.den:Int)
 have m2:=hi_mul (x.den:Int) (y.den:Int)
 have m3:=hi_add (x.num * (y.den:Int)) (y.num * (x.den:Int))
 have m4:=hi_sub (x.num * (y.den:Int)) (y.num * (x.den:Int))
 have bel:Only z W W:=Only.refl _ _
 go_enter Tryz.func94,Tryz.ntmps94
 refine gs 1 (Amb S W) fun _ K3=>?_
 refine .mc rfl ?_
 refine .dg (fun u=>pt z::pt b1::pt b2::U::U::U::u 0::us 27) K3 bel.size fun u1 w1 D=>?_
 have E1_0:=D.q 0
 replace B_z:=D.k B_z
 replace F1:=D.o L1 F1
 replace F2:=D.o L2 F2
 replace bel:=D.d.base.only0 bel
 clear D
 refine gd 8 (Amb S W) fun _ K4=>?_
 refine .al rfl zI ?_
 refine .mz rfl 1 (V:=pt b1) rfl ?_
 refine .nc rfl 1 ?_
 refine .fj rfl 2 0 ?_
 refine .mz rfl 2 (V:=pt b2) rfl ?_
 refine .cR rfl [] Tryz.func129 (fun H=>⟨_,ar1 (H.g 12 4),bDen _ (H.was _ [] (VP.at F2 L2))⟩) ?_
 refine .cO rfl 0 Tryz.func68 (fun H h0 hz=>⟨_,ar3 (H.p 8 0 h0) (H.g 11 3) (H.r 13 5),bMul _ _ (IntBlk.of hz) (RatP.num (VP.any _ (H.was _ [] (VP.at F1 L1)))) (SV.any (H.a 5 rfl)) (by first | omega | exact den_mul_ne _ _)⟩) ?_
 refine .mo rfl 6 ?_
 refine .dg (fun u=>pt z::pt b1::pt b2::U::U::U::u1 0::u 7::sq u 0 7 (us 19)) K4 bel.size fun u2 w2 D=>?_
 obtain ⟨b5,E2_7,A5,F5⟩:=D.ow 7
 have N_z_b5:=D.n1 0 (lt_of B_z) ((D.a 7 rfl).1.symm.trans E2_7)
 have N1_5:=D.n1 0 (RatP.lt F1) ((D.a 7 rfl).1.symm.trans E2_7)
 have N2_5:=D.n1 0 (RatP.lt F2) ((D.a 7 rfl).1.symm.trans E2_7)
 replace B_z:=D.k B_z
 replace F1:=D.o L1 F1
 replace F2:=D.o L2 F2
 have L5:Amb S W b5:=.inr A5
 replace bel:=D.d.base.only0 bel
 clear D
 refine wp_seq_k fun _ K6=>?_
 refine go2_drawnT (by kernel_rfl) 9 1 rfl (by decide) (by kernel_rfl) (Amb S W) [] [] (Olds.nil _) (by kernel_rfl) ?_
 refine .mz rfl 7 E2_7 ?_
 refine .mz rfl 7 E2_7 ?_
 refine .al rfl zI ?_
 refine .mz rfl 2 (V:=pt b2) rfl ?_
 refine .nc rfl 3 ?_
 refine .fj rfl 4 0 ?_
 refine .mz rfl 1 (V:=pt b1) rfl ?_
 refine .cR rfl [] Tryz.func129 (fun H=>⟨_,ar1 (H.g 21 6),bDen _ (H.was _ [] (VP.at F1 L1))⟩) ?_
 refine .cO rfl 2 Tryz.func68 (fun H h0 hz=>⟨_,ar3 (H.p 17 2 h0) (H.g 20 5) (H.r 22 7),bMul _ _ (IntBlk.of hz) (RatP.num (VP.any _ (H.was _ [] (VP.at F2 L2)))) (SV.any (H.a 7 rfl)) (by first | omega | exact den_mul_ne _ _)⟩) ?_
 refine .dT (fun u=>pt z::pt b1::pt b2::U::U::U::u1 0::u2 7::sq u2 0 7 (sq u 0 10 (us 9))) bel.size _ rfl fun u3 w3 D=>?_
 obtain ⟨b7,E3_8,A7,F7⟩:=D.ow 8
 have E3_0:=D.q 0
 have E3_1:=D.q 1
 have N_z_b7:=D.n1 2 (lt_of B_z) ((D.a 8 rfl).1.symm.trans E3_8)
 have N5_7:=D.n1 2 (IntO.lt F5) ((D.a 8 rfl).1.symm.trans E3_8)
 replace B_z:=D.k B_z
 replace F1:=D.o L1 F1
 replace F2:=D.o L2 F2
 replace F5:=D.o L5 F5
 have L7:Amb S W b7:=.inr A7
 replace bel:=D.d.base.only0 bel
 clear D
 refine wpT_callO (args:=#[pt b5,pt b5,pt b7]) rfl (ex_call rfl rfl Tryz.func159 (by kernel_rfl) (by kernel_rfl) (by simp only [List.map_toArray,List.map_cons,List.map_nil]; show #[(u3 0).v,(u3 1).v,(u3 8).v] = #[pt b5,pt b5,pt b7]; rw [E3_0,E3_1,E3_8])) (bAdd (z:=b5) (x:=x.num * (y.den:Int)) (y:=y.num * (x.den:Int)) (IntO.blk F5) (IntO.p (VP.any _ F5)) (IntO.p (VP.any _ F7)) (by first | omega | exact den_mul_ne _ _)) fun w8 fw8 ow8=>?_
 have sw8:Soft w3 b5 ∨ Local w3 b5:=.inl (IntO.soft F5)
 replace B_z:=ow8.keep B_z N_z_b5
 replace F1:=ow8.one sw8 _ N1_5 F1
 replace F2:=ow8.one sw8 _ N2_5 F2
 replace F7:=ow8.one sw8 _ (Ne.symm N5_7) F7
 have F5:=fw8
 have L5:Amb S W b5:=.inr A5
 replace bel:=Only.other ow8 A5 bel.size bel
 refine wpList_nil ?_
 show _
 refine K6 _ _ ?_
 refine wp_seq_k fun _ K9=>?_
 refine go2_seqT 8 2 rfl (Amb S W) [] [] (Olds.nil _) (by kernel_rfl) ?_
 refine .mz rfl 0 (V:=pt z) rfl ?_
 refine .mz rfl 7 E2_7 ?_
 refine .al rfl zI ?_
 refine .mz rfl 1 (V:=pt b1) rfl ?_
 refine .cR rfl [] Tryz.func129 (fun H=>⟨_,ar1 (H.g 28 3),bDen _ (H.was _ [] (VP.at F1 L1))⟩) ?_
 refine .mz rfl 2 (V:=pt b2) rfl ?_
 refine .cR rfl [] Tryz.func129 (fun H=>⟨_,ar1 (H.g 30 5),bDen _ (H.was _ [] (VP.at F2 L2))⟩) ?_
 refine .cO rfl 2 Tryz.func68 (fun H h0 hz=>⟨_,ar3 (H.p 27 2 h0) (H.r 29 4) (H.r 31 6),bMul _ _ (IntBlk.of hz) (SV.any (H.a 4 rfl)) (SV.any (H.a 6 rfl)) (by first | omega | exact den_mul_ne _ _)⟩) ?_
 refine .dT (fun u=>pt z::pt b1::pt b2::U::U::U::u 9::u2 7::sq u2 0 7 (sq u3 0 9 (.pointer (some ⟨b5,0,none⟩)::sq u 0 9 []))) bel.size _ rfl fun u4 w4 D=>?_
 obtain ⟨b10,E4_7,A10,F10⟩:=D.ow 7
 have E4_0:=D.q 0
 have E4_1:=D.q 1
 have N_z_b10:=D.n1 2 (lt_of B_z) ((D.a 7 rfl).1.symm.trans E4_7)
 have N5_10:=D.n1 2 (IntO.lt F5) ((D.a 7 rfl).1.symm.trans E4_7)
 replace B_z:=D.k B_z
 replace F5:=D.o L5 F5
 have L10:Amb S W b10:=.inr A10
 replace bel:=D.d.base.only0 bel
 clear D
 refine wpT_callO (args:=#[pt z,pt b5,pt b10]) rfl (ex_call rfl rfl Tryz.func160 (by kernel_rfl) (by kernel_rfl) (by simp only [List.map_toArray,List.map_cons,List.map_nil]; show #[(u4 0).v,(u4 1).v,(u4 7).v] = #[pt z,pt b5,pt b10]; rw [E4_0,E4_1,E4_7])) (qSetFrac (z:=z) (x:=(x.num * (y.den:Int)) + (y.num * (x.den:Int))) (y:=(x.den:Int) * (y.den:Int)) (RatBlk.of B_z) (IntO.p (VP.any _ F5)) (IntO.p (VP.any _ F10)) (by first | omega | exact den_mul_ne _ _) (by first | omega | exact den_mul_ne _ _)) fun w11 fw11 ow11=>?_
 have sw11:Soft w4 z ∨ Local w4 z:=.inl ⟨_,_,B_z,rfl⟩
 replace F5:=ow11.one sw11 _ (Ne.symm N_z_b5) F5
 replace F10:=ow11.one sw11 _ (Ne.symm N_z_b10) F10
 have F_z:=fw11
 replace bel:=bel.trans ow11
 refine wpT_val rfl (ex_assign rfl) ?_
 refine wpList_nil ?_
 show _
 refine K9 _ _ ?_
 refine wp_ret ?_
 refine ret_ok rfl (by exact results_tmp' rfl rfl) ⟨rfl,?_,bel⟩
 exact rat_eq (fr_plus x y) F_z
end Go.Proofs.YtllohoibifcmdaaGreat
namespace Go.Proofs.YtllohoibifcmdaaGreat
open Go.RowKit Rgn
theorem fr_minus (x y:Rat):Rat.divInt (x.num * (y.den:Int) - y.num * (x.den:Int)) ((x.den:Int) * (y.den:Int)) = x - y:=by
 rw [Rat.sub_eq_add_neg,← fr_plus,Rat.neg_num,Rat.neg_den,Int.neg_mul,Int.sub_eq_add_neg]
end Go.Proofs.YtllohoibifcmdaaGreat
namespace Go.Proofs.YtllohoibifcmdaaGreat
open Go.RowKit Rgn
set_option maxHeartbeats 4000000
set_option maxRecDepth 100000
variable {S:Nat → Prop} {W:World}
theorem qSub {z:Nat} {v1:Value} {v2:Value} (x:Rat) (y:Rat) (hz:RatBlk W z) (t1:(RatP x).p S v1 W) (t2:(RatP y).p S v2 W) (p0:ht x + ht y ≤ 68719476736) :
  Calls Tryz.prog 125 #[.pointer (some ⟨z,0,none⟩),v1,v2] W (RetOwn z (RatP (x - y)) W):=by
 have hS_:∃ S' : Nat → Prop,S' z ∧ (RatP x).p S' v1 W ∧ (RatP y).p S' v2 W:=⟨fun k=>S k ∨ k = z,.inr rfl,(RatP x).mono (fun _ _ h=>.inl h) t1,(RatP y).mono (fun _ _ h=>.inl h) t2⟩
 clear t1 t2
 obtain ⟨S,L_z,t1,t2⟩:=hS_
 replace L_z:Amb S W z:=.inl L_z
 obtain ⟨z_0,z_1,z_2,z_3,B_z⟩:=hz
 obtain ⟨b1,rfl,L1,F1⟩:=RatP.elim t1
 replace L1:Amb S W b1:=.inl L1
 obtain ⟨b2,rfl,L2,F2⟩:=RatP.elim t2
 replace L2:Amb S W b2:=.inl L2
 have n0:=hi_num x
 have n1:=hi_num y
 have n2:=hi_den x
 have n3:=hi_den y
 have m0:=hi_mul x.num (y.den:Int)
 have m1:=hi_mul y.num (x.den:Int)
 have m2:=hi_mul (x.den:Int) (y.den:Int)
 have m3:=hi_add (x.num * (y.den:Int)) (y.num * (x.den:Int))
 have m4:=hi_sub (x.num * (y.den:Int)) (y.num * (x.den:Int))
 have bel:Only z W W:=Only.refl _ _
 go_enter Tryz.func125,Tryz.ntmps125
 refine gs 1 (Amb S W) fun _ K3=>?_
 refine .mc rfl ?_
 refine .dg (fun u=>pt z::pt b1::pt b2::U::U::U::u 0::us 27) K3 bel.size fun u1 w1 D=>?_
 have E1_0:=D.q 0
 replace B_z:=D.k B_z
 replace F1:=D.o L1 F1
 replace F2:=D.o L2 F2
 replace bel:=D.d.base.only0 bel
 clear D
 refine gd 8 (Amb S W) fun _ K4=>?_
 refine .al rfl zI ?_
 refine .mz rfl 1 (V:=pt b1) rfl ?_
 refine .nc rfl 1 ?_
 refine .fj rfl 2 0 ?_
 refine .mz rfl 2 (V:=pt b2) rfl ?_
 refine .cR rfl [] Tryz.func129 (fun H=>⟨_,ar1 (H.g 12 4),bDen _ (H.was _ [] (VP.at F2 L2))⟩) ?_
 refine .cO rfl 0 Tryz.func68 (fun H h0 hz=>⟨_,ar3 (H.p 8 0 h0) (H.g 11 3) (H.r 13 5),bMul _ _ (IntBlk.of hz) (RatP.num (VP.any _ (H.was _ [] (VP.at F1 L1)))) (SV.any (H.a 5 rfl)) (by first | omega | exact den_mul_ne _ _)⟩) ?_
 refine .mo rfl 6 ?_
 refine .dg (fun u=>pt z::pt b1::pt b2::U::U::U::u1 0::u 7::sq u 0 7 (us 19)) K4 bel.size fun u2 w2 D=>?_
 obtain ⟨b5,E2_7,A5,F5⟩:=D.ow 7
 have N_z_b5:=D.n1 0 (lt_of B_z) ((D.a 7 rfl).1.symm.trans E2_7)
 have N1_5:=D.n1 0 (RatP.lt F1) ((D.a 7 rfl).1.symm.trans E2_7)
 have N2_5:=D.n1 0 (RatP.lt F2) ((D.a 7 rfl).1.symm.trans E2_7)
 replace B_z:=D.k B_z
 replace F1:=D.o L1 F1
 replace F2:=D.o L2 F2
 have L5:Amb S W b5:=.inr A5
 replace bel:=D.d.base.only0 bel
 clear D
 refine wp_seq_k fun _ K6=>?_
 refine go2_drawnT (by kernel_rfl) 9 1 rfl (by decide) (by kernel_rfl) (Amb S W) [] [] (Olds.nil _) (by kernel_rfl) ?_
 refine .mz rfl 7 E2_7 ?_
 refine .mz rfl 7 E2_7 ?_
 refine .al rfl zI ?_
 refine .mz rfl 2 (V:=pt b2) rfl ?_
 refine .nc rfl 3 ?_
 refine .fj rfl 4 0 ?_
 refine .mz rfl 1 (V:=pt b1) rfl ?_
 refine .cR rfl [] Tryz.func129 (fun H=>⟨_,ar1 (H.g 21 6),bDen _ (H.was _ [] (VP.at F1 L1))⟩) ?_
 refine .cO rfl 2 Tryz.func68 (fun H h0 hz=>⟨_,ar3 (H.p 17 2 h0) (H.g 20 5) (H.r 22 7),bMul _ _ (IntBlk.of hz) (RatP.num (VP.any _ (H.was _ [] (VP.at F2 L2)))) (SV.any (H.a 7 rfl)) (by first | omega | exact den_mul_ne _ _)⟩) ?_
 refine .dT (fun u=>pt z::pt b1::pt b2::U::U::U::u1 0::u2 7::sq u2 0 7 (sq u 0 10 (us 9))) bel.size _ rfl fun u3 w3 D=>?_
 obtain ⟨b7,E3_8,A7,F7⟩:=D.ow 8
 have E3_0:=D.q 0
 have E3_1:=D.q 1
 have N_z_b7:=D.n1 2 (lt_of B_z) ((D.a 8 rfl).1.symm.trans E3_8)
 have N5_7:=D.n1 2 (IntO.lt F5) ((D.a 8 rfl).1.symm.trans E3_8)
 replace B_z:=D.k B_z
 replace F1:=D.o L1 F1
 replace F2:=D.o L2 F2
 replace F5:=D.o L5 F5
 have L7:Amb S W b7:=.inr A7
 replace bel:=D.d.base.only0 bel
 clear D
 refine wpT_callO (args:=#[pt b5,pt b5,pt b7]) rfl (ex_call rfl rfl Tryz.func140 (by kernel_rfl) (by kernel_rfl) (by simp only [List.map_toArray,List.map_cons,List.map_nil]; show #[(u3 0).v,(u3 1).v,(u3 8).v] = #[pt b5,pt b5,pt b7]; rw [E3_0,E3_1,E3_8])) (bSub (z:=b5) (x:=x.num * (y.den:Int)) (y:=y.num * (x.den:Int)) (IntO.blk F5) (IntO.p (VP.any _ F5)) (IntO.p (VP.any _ F7)) (by first | omega | exact den_mul_ne _ _)) fun w8 fw8 ow8=>?_
 have sw8:Soft w3 b5 ∨ Local w3 b5:=.inl (IntO.soft F5)
 replace B_z:=ow8.keep B_z N_z_b5
 replace F1:=ow8.one sw8 _ N1_5 F1
 replace F2:=ow8.one sw8 _ N2_5 F2
 replace F7:=ow8.one sw8 _ (Ne.symm N5_7) F7
 have F5:=fw8
 have L5:Amb S W b5:=.inr A5
 replace bel:=Only.other ow8 A5 bel.size bel
 refine wpList_nil ?_
 show _
 refine K6 _ _ ?_
 refine wp_seq_k fun _ K9=>?_
 refine go2_seqT 8 2 rfl (Amb S W) [] [] (Olds.nil _) (by kernel_rfl) ?_
 refine .mz rfl 0 (V:=pt z) rfl ?_
 refine .mz rfl 7 E2_7 ?_
 refine .al rfl zI ?_
 refine .mz rfl 1 (V:=pt b1) rfl ?_
 refine .cR rfl [] Tryz.func129 (fun H=>⟨_,ar1 (H.g 28 3),bDen _ (H.was _ [] (VP.at F1 L1))⟩) ?_
 refine .mz rfl 2 (V:=pt b2) rfl ?_
 refine .cR rfl [] Tryz.func129 (fun H=>⟨_,ar1 (H.g 30 5),bDen _ (H.was _ [] (VP.at F2 L2))⟩) ?_
 refine .cO rfl 2 Tryz.func68 (fun H h0 hz=>⟨_,ar3 (H.p 27 2 h0) (H.r 29 4) (H.r 31 6),bMul _ _ (IntBlk.of hz) (SV.any (H.a 4 rfl)) (SV.any (H.a 6 rfl)) (by first | omega | exact den_mul_ne _ _)⟩) ?_
 refine .dT (fun u=>pt z::pt b1::pt b2::U::U::U::u 9::u2 7::sq u2 0 7 (sq u3 0 9 (.pointer (some ⟨b5,0,none⟩)::sq u 0 9 []))) bel.size _ rfl fun u4 w4 D=>?_
 obtain ⟨b10,E4_7,A10,F10⟩:=D.ow 7
 have E4_0:=D.q 0
 have E4_1:=D.q 1
 have N_z_b10:=D.n1 2 (lt_of B_z) ((D.a 7 rfl).1.symm.trans E4_7)
 have N5_10:=D.n1 2 (IntO.lt F5) ((D.a 7 rfl).1.symm.trans E4_7)
 replace B_z:=D.k B_z
 replace F5:=D.o L5 F5
 have L10:Amb S W b10:=.inr A10
 replace bel:=D.d.base.only0 bel
 clear D
 refine wpT_callO (args:=#[pt z,pt b5,pt b10]) rfl (ex_call rfl rfl Tryz.func160 (by kernel_rfl) (by kernel_rfl) (by simp only [List.map_toArray,List.map_cons,List.map_nil]; show #[(u4 0).v,(u4 1).v,(u4 7).v] = #[pt z,pt b5,pt b10]; rw [E4_0,E4_1,E4_7])) (qSetFrac (z:=z) (x:=(x.num * (y.den:Int)) - (y.num * (x.den:Int))) (y:=(x.den:Int) * (y.den:Int)) (RatBlk.of B_z) (IntO.p (VP.any _ F5)) (IntO.p (VP.any _ F10)) (by first | omega | exact den_mul_ne _ _) (by first | omega | exact den_mul_ne _ _)) fun w11 fw11 ow11=>?_
 have sw11:Soft w4 z ∨ Local w4 z:=.inl ⟨_,_,B_z,rfl⟩
 replace F5:=ow11.one sw11 _ (Ne.symm N_z_b5) F5
 replace F10:=ow11.one sw11 _ (Ne.symm N_z_b10) F10
 have F_z:=fw11
 replace bel:=bel.trans ow11
 refine wpT_val rfl (ex_assign rfl) ?_
 refine wpList_nil ?_
 show _
 refine K9 _ _ ?_
 refine wp_ret ?_
 refine ret_ok rfl (by exact results_tmp' rfl rfl) ⟨rfl,?_,bel⟩
 exact rat_eq (fr_minus x y) F_z
end Go.Proofs.YtllohoibifcmdaaGreat
namespace Go.Proofs.YtllohoibifcmdaaGreat.Rgn
open Go.RowKit
variable {P:Program} {ops:Array Oper} {a0:Act} {w0:World} {B0:Nat} {R0:Nat → Prop} {olds:List (Nat × Nat)} {rp:List (Nat × Pl B0 R0 olds)} {i:Nat} {u:Nat → Got} {w:World} {ρ:Operand → Value}
theorem Here2.wasSoft (h:Here2 ops a0 olds w0 rp i u w ρ) (x i' : Nat) {z:Nat} (hx:olds[x]? = some (z,i')) (hor:i' = i ∨ pre ops i' i = true) (hB:w0.heap.size ≤ B0) {φ:VP} {S:Nat → Prop} {v:Value} (hS:∀ k,S k → R0 k ∨ k = z) (hp:φ.p S v w0):φ.p Any v w:=by
 have hb:=h.here.base
 refine φ.any (φ.grow (S:=S) ⟨hb.grow.os,hb.grow.tape,hb.grow.output,hb.grow.size,fun k hk=>?_⟩ hp)
 by_cases e:k = z
 ·subst e; exact .inl (h.here.old x k i' hx hor)
 ·rcases hb.grow.block k hk with g | g | ⟨g1,g2⟩
  ·exact .inl g
  ·exact .inr (.inl g)
  ·refine .inr (.inr ⟨g1,fun hs=>?_⟩)
   rcases hS k hs with r | r
   ·exact g2 ⟨r,by omega⟩
   ·exact e r
theorem soft_or {S:Nat → Prop} {W:World} {z:Nat}:∀ k,Amb S W k → (Amb S W k ∧ k ≠ z) ∨ k = z:=fun k h=>by
 by_cases e:k = z
 ·exact .inr e
 ·exact .inl ⟨h,e⟩
end Go.Proofs.YtllohoibifcmdaaGreat.Rgn
namespace Go.Proofs.YtllohoibifcmdaaGreat
theorem den_int (x:Int):(1:Int) = ((x:Rat).den:Int):=by rw [Rat.den_intCast]; rfl
theorem hi_i64 {n : Int} (h1 : -9223372036854775808 ≤ n) (h2 : n ≤ 9223372036854775807) : hi n ≤ 65 := by
  unfold hi
  have : bl n.natAbs ≤ 64 := bl_le.2 (by have : (2 : Nat) ^ 64 = 18446744073709551616 := by decide
                                         omega)
  omega
end Go.Proofs.YtllohoibifcmdaaGreat
namespace Go.Proofs.YtllohoibifcmdaaGreat
open Go.RowKit Rgn
set_option maxHeartbeats 4000000
set_option maxRecDepth 100000
variable {S:Nat → Prop} {W:World}
theorem qSetInt {z:Nat} {v1:Value} (x:Int) (hz:RatBlk W z) (t1:(IntP x).p S v1 W) (p0:hi x ≤ 1099511627776) :
  Calls Tryz.prog 70 #[.pointer (some ⟨z,0,none⟩),v1] W (RetOwn z (RatP ((x:Int):Rat)) W):=by
 have hS_:∃ S' : Nat → Prop,S' z ∧ (IntP x).p S' v1 W:=⟨fun k=>S k ∨ k = z,.inr rfl,(IntP x).mono (fun _ _ h=>.inl h) t1⟩
 clear t1
 obtain ⟨S,L_z,t1⟩:=hS_
 replace L_z:Amb S W z:=.inl L_z
 obtain ⟨z_0,z_1,z_2,z_3,B_z⟩:=hz
 obtain ⟨b1,ob1,rfl,L1,F1⟩:=IntP.elim t1
 replace L1:Amb S W b1:=.inl L1
 have bel:Only z W W:=Only.refl _ _
 go_enter Tryz.func70,Tryz.ntmps70
 refine gs 1 (Amb S W) fun _ K2=>?_
 refine .mc rfl ?_
 refine .dg (fun u=>pt z::.pointer (some ⟨b1,ob1,none⟩)::U::U::u 0::us 15) K2 bel.size fun u1 w1 D=>?_
 have E1_0:=D.q 0
 replace B_z:=D.k B_z
 replace F1:=D.o L1 F1
 replace bel:=D.d.base.only0 bel
 clear D
 refine wp_seq_k fun _ K3=>?_
 refine go2_drawnT (by kernel_rfl) 15 1 rfl (by decide) (by kernel_rfl) (fun k=>Amb S W k ∧ k ≠ z) [(z,12)] [12] (Olds.one (lt_of B_z)) (by kernel_rfl) ?_
 refine .mz rfl 0 (V:=pt z) rfl ?_
 refine .mz rfl 0 (V:=pt z) rfl ?_
 refine .al rfl zI ?_
 refine .mz rfl 1 (V:=.pointer (some ⟨b1,ob1,none⟩)) rfl ?_
 refine .cO rfl 2 Tryz.func128 (fun H h0 hz=>⟨_,ar2 (H.p 7 2 h0) (H.g 8 3),bSet _ (IntBlk.of hz) (H.wasSoft 0 12 rfl (.inr (by kernel_rfl)) (Nat.le_refl _) soft_or (VP.at F1 L1)) (by omega)⟩) ?_
 refine Go2.fn (i:=5) rfl (G0 rfl) (.own 5 2 (IntO x)) (fun u μ ρ H=>⟨(u 4).v,by have e9:=H.r 9 4; obtain ⟨b_,hb_⟩:=IntO.isPtr (Own.any (H.a 4 rfl)); rw [hb_] at e9 ⊢; clear H; go_simp,Own.keep rfl rfl (H.a 4 rfl)⟩) ?_
 refine Go2.fn (i:=6) rfl (G0 rfl) (.val 6 [] (IntV x)) (fun u μ ρ H=>by have e10:=H.r 10 5; obtain ⟨b_,hb_,_,F_⟩:=IntO.elim (Own.any (H.a 5 rfl)); rw [hb_] at e10; obtain ⟨v_,hB_,hm_⟩:=IntO.at F_; exact ⟨_,ex_load_row 98 _ rfl e10 hB_ Tryz.underlying98 rfl (by kernel_rfl),SP.intV hm_⟩) ?_
 refine .cR rfl [] Tryz.func130 (fun H=>⟨_,ar1 (H.c (.int .i64 1)),bNewInt _ (by omega) (by omega)⟩) ?_
 refine Go2.fn (i:=8) rfl (G0 rfl) (.val 8 [7] (IntO (1:Int))) (fun u μ ρ H=>⟨(u 7).v,by have e12:=H.r 12 7; obtain ⟨b_,hb_⟩:=IntO.isPtr (SV.any (H.a 7 rfl)); rw [hb_] at e12 ⊢; clear H; go_simp,SP.keep (by decide) (by decide) (H.a 7 rfl)⟩) ?_
 refine Go2.fn (i:=9) rfl (G0 rfl) (.val 9 [] (IntV (1:Int))) (fun u μ ρ H=>by have e13:=H.r 13 8; obtain ⟨b_,hb_,_,F_⟩:=IntO.elim (SV.any (H.a 8 rfl)); rw [hb_] at e13; obtain ⟨v_,hB_,hm_⟩:=IntO.at F_; exact ⟨_,ex_load_row 98 _ rfl e13 hB_ Tryz.underlying98 rfl (by kernel_rfl),SP.intV hm_⟩) ?_
 refine .nc rfl 0 ?_
 refine .fj rfl 10 0 ?_
 refine Go2.storeSoft (i:=12) 0 z rfl rfl rfl ⟨_,_,B_z,rfl⟩ (fun h=>h.2 rfl) (SP.old 0 z [6] (fun u=>#[.bool (decide (x < 0)),((u 6).v.cells.getD 1 undef),z_2,z_3]) 102 (by intro u u' h; simp [h 6 (by simp)]) (lt_of B_z) (by intro y k hy; match y,hy with | 0,hy=>rfl)) (fun u μ ρ H=>?_) ?_
 · have e16:=H.g 16 11; have e11:=H.r 11 6; have hb:=H.blkOld B_z 0 12 rfl (.inl rfl)
   obtain ⟨x1,x2,h1,h2,h3⟩:=(H.a 6 rfl)
   obtain rfl:x1 = _:=h2
   have o2:=VP1.mag h3
   rw [h1] at e11
   refine ⟨μ.setRow z #[.bool (decide (x < 0)),x2,z_2,z_3],ex_store_part 98 _ _ rfl e16 e11 hb (by kernel_rfl) (by simp) (by simp [o2] <;> rfl) (by simp),fun g=>?_,setRow_only _ _ _⟩
   show (World.setRow _ _ _).heap[z]? = _
   rw [setRow_at hb]; try simp [upd,h1,Value.cells]
 refine .nc rfl 1 ?_
 refine .fj rfl 13 2 ?_
 refine .dT (fun u=>pt z::.pointer (some ⟨b1,ob1,none⟩)::U::U::u1 0::sq u 0 12 (u 13::u 14::U::[])) bel.size _ rfl fun u2 w2 D=>?_
 obtain ⟨x4,x5,E2_6,e_,F_x5⟩:=(D.rz 6)
 obtain rfl:x4 = _:=e_
 replace F_x5:(MagP x.natAbs).p (Amb S W) x5 w2:=F_x5
 obtain ⟨x6,x7,E2_9,e_,F_x7⟩:=(D.rz 9)
 obtain rfl:x6 = _:=e_
 replace F_x7:(MagP (1:Int).natAbs).p (Amb S W) x7 w2:=F_x7
 have E2_14:=D.q 14
 replace B_z:w2.heap[z]? = _:=(D.a 12 rfl)
 simp only [Value.cells,E2_6,E2_9] at B_z
 replace bel:=bel.trans ⟨D.d.base.grow.os,D.d.base.grow.tape,D.d.base.grow.output,D.d.base.grow.size,fun k hk hz=>D.d.base.block k hk (fun x_ i_ hx_=>by have h_:=List.mem_of_getElem? hx_; simp at h_; exact hz h_.1)⟩
 clear D
 have o1_:=VP1.mag F_x7
 refine wpT_skip rfl (ex_store_part 98 _ _ rfl (by exact E2_14) (by exact E2_9) B_z (by kernel_rfl) (by simp) (by simp [o1_] <;> rfl) (vs:=#[.bool (decide (x < 0)),x5,.bool (decide ((1:Int) < 0)),x7]) (by simp)) ?_
 have ow8:=setRow_only w2 z #[.bool (decide (x < 0)),x5,.bool (decide ((1:Int) < 0)),x7]
 have sw8:Soft w2 z ∨ Local w2 z:=.inl ⟨_,_,B_z,rfl⟩
 replace B_z:=setRow_at (c' := #[.bool (decide (x < 0)),x5,.bool (decide ((1:Int) < 0)),x7]) B_z
 replace F_x5:=(MagP x.natAbs).grow (S:=fun _=>False) (Rgn.Only.growF ow8 sw8) F_x5
 replace F_x7:=(MagP ((1:Int).natAbs)).grow (S:=fun _=>False) (Rgn.Only.growF ow8 sw8) F_x7
 replace bel:=bel.trans ow8
 obtain ⟨w8,hw8⟩:∃ x_,x_ = w2.setRow z #[.bool (decide (x < 0)),x5,.bool (decide ((1:Int) < 0)),x7]:=⟨_,rfl⟩
 rw [← hw8] at B_z
 rw [← hw8] at F_x5
 rw [← hw8] at F_x7
 rw [← hw8] at bel
 rw [← hw8]
 clear hw8
 refine wpList_nil ?_
 show _
 refine K3 _ _ ?_
 refine gs 2 (Amb S W) fun _ K9=>?_
 refine .mz rfl 0 (V:=pt z) rfl ?_
 refine .mv rfl 0 ?_
 refine .dg (fun u=>pt z::.pointer (some ⟨b1,ob1,none⟩)::U::U::u 1::sq u2 0 12 (u2 13::u2 14::u 0::[])) K9 bel.size fun u3 w3 D=>?_
 have E3_1:=D.q 1
 replace B_z:=D.k B_z
 replace F_x5:=D.gr (MagP x.natAbs) F_x5
 replace F_x7:=D.gr (MagP ((1:Int).natAbs)) F_x7
 replace bel:=D.d.base.only0 bel
 clear D
 refine wp_ret ?_
 exact ret_ok rfl (by exact results_tmp' rfl (by exact E3_1)) ⟨rfl,RatP.of ((Rat.num_intCast x).symm) (den_int x) B_z F_x5 F_x7,bel⟩
theorem qSetInt64 {z:Nat} (n:Int) (hz:RatBlk W z) (p0:-9223372036854775808 ≤ n) (p1:n ≤ 9223372036854775807) :
  Calls Tryz.prog 103 #[.pointer (some ⟨z,0,none⟩),.int .i64 n] W (RetOwn z (RatP ((n:Int):Rat)) W):=by
 have hS_:∃ S' : Nat → Prop,S' z:=⟨fun k=>Z0 k ∨ k = z,.inr rfl⟩
 obtain ⟨S,L_z⟩:=hS_
 replace L_z:Amb S W z:=.inl L_z
 obtain ⟨z_0,z_1,z_2,z_3,B_z⟩:=hz
 have n0:=hi_i64 p0 p1
 have bel:Only z W W:=Only.refl _ _
 go_enter Tryz.func103,Tryz.ntmps103
 refine gs 1 (Amb S W) fun _ K1=>?_
 refine .mc rfl ?_
 refine .dg (fun u=>pt z::.int .i64 n::U::U::u 0::us 4) K1 bel.size fun u1 w1 D=>?_
 have E1_0:=D.q 0
 replace B_z:=D.k B_z
 replace bel:=D.d.base.only0 bel
 clear D
 refine wp_seq_k fun _ K2=>?_
 refine go2_seqT 3 2 rfl (Amb S W) [] [] (Olds.nil _) (by kernel_rfl) ?_
 refine .mz rfl 0 (V:=pt z) rfl ?_
 refine .mz rfl 1 (V:=.int .i64 n) rfl ?_
 refine .cR rfl [] Tryz.func130 (fun H=>⟨_,ar1 (H.g 6 1),bNewInt _ (by omega) (by omega)⟩) ?_
 refine .dT (fun u=>pt z::.int .i64 n::U::U::u 4::sq u 0 4 []) bel.size _ rfl fun u2 w2 D=>?_
 obtain ⟨b3,E2_2,L3,F3⟩:=IntO.elim (D.rr 2)
 have E2_0:=D.q 0
 replace B_z:=D.k B_z
 replace bel:=D.d.base.only0 bel
 clear D
 refine wpT_callO (args:=#[pt z,pt b3]) rfl (ex_call rfl rfl Tryz.func70 (by kernel_rfl) (by kernel_rfl) (by simp only [List.map_toArray,List.map_cons,List.map_nil]; show #[(u2 0).v,(u2 2).v] = #[pt z,pt b3]; rw [E2_0,E2_2])) (qSetInt (z:=z) (x:=n) (RatBlk.of B_z) (IntO.p (VP.any _ F3)) (by omega)) fun w4 fw4 ow4=>?_
 have sw4:Soft w2 z ∨ Local w2 z:=.inl ⟨_,_,B_z,rfl⟩
 have F_z:=fw4
 replace bel:=bel.trans ow4
 refine wpT_val rfl (ex_assign rfl) ?_
 refine wpList_nil ?_
 show _
 refine K2 _ _ ?_
 refine wp_ret ?_
 refine ret_ok rfl (by exact results_tmp' rfl rfl) ⟨rfl,?_,bel⟩
 exact F_z
theorem qNewRat (n:Int) (d:Int) (p0:-9223372036854775808 ≤ n) (p1:n ≤ 9223372036854775807) (p2:-9223372036854775808 ≤ d) (p3:d ≤ 9223372036854775807) (p4:d ≠ 0) :
  Calls Tryz.prog 136 #[.int .i64 n,.int .i64 d] W (Ret (RatP (Rat.divInt n d)) S W):=by
 have n0:=hi_i64 p0 p1
 have n1:=hi_i64 p2 p3
 have bel:=b0 W
 go_enter Tryz.func136,Tryz.ntmps136
 refine gs 1 (Amb S W) fun _ K1=>?_
 refine .mc rfl ?_
 refine .dk (fun u=>.int .i64 n::.int .i64 d::U::U::u 0::us 6) K1 bel fun u1 w1 D bel=>?_
 have E1_0:=D.q 0
 clear D
 refine gs 7 (Amb S W) fun _ K2=>?_
 refine .al rfl zQ ?_
 refine .mz rfl 0 (V:=.int .i64 n) rfl ?_
 refine .cR rfl [] Tryz.func130 (fun H=>⟨_,ar1 (H.g 6 1),bNewInt _ (by first | omega | exact p4) (by first | omega | exact p4)⟩) ?_
 refine .mz rfl 1 (V:=.int .i64 d) rfl ?_
 refine .cR rfl [] Tryz.func130 (fun H=>⟨_,ar1 (H.g 8 3),bNewInt _ (by first | omega | exact p4) (by first | omega | exact p4)⟩) ?_
 refine .cO rfl 0 Tryz.func160 (fun H h0 hz=>⟨_,ar3 (H.p 5 0 h0) (H.r 7 2) (H.r 9 4),qSetFrac _ _ (RatBlk.of hz) (IntO.p (SV.any (H.a 2 rfl))) (IntO.p (SV.any (H.a 4 rfl))) (by first | omega | exact p4) (by first | omega | exact p4)⟩) ?_
 refine .mo rfl 5 ?_
 refine .dk (fun u=>.int .i64 n::.int .i64 d::U::U::u 6::sq u 0 6 []) K2 bel fun u2 w2 D bel=>?_
 obtain ⟨b3,E2_6,A3,F3⟩:=D.ow 6
 have L3:Amb S W b3:=.inr A3
 clear D
 refine wp_ret ?_
 refine ret_ok rfl (by exact results_tmp' rfl (by exact E2_6)) ⟨_,rfl,?_,bel⟩
 exact (VP.at F3 L3)
theorem xSub {v0:Value} {v1:Value} (x:Cx) (y:Cx) (t0:(CxP x).p S v0 W) (t1:(CxP y).p S v1 W) (p0:ht x.re + ht x.im + ht y.re + ht y.im ≤ 17179869184) :
  Calls Tryz.prog 82 #[v0,v1] W (Ret (CxP (x.sub y)) S W):=by
 obtain ⟨b1,b2,rfl,L1,L2,F1,F2⟩:=CxP.elim t0
 replace L1:Amb S W b1:=.inl L1
 replace L2:Amb S W b2:=.inl L2
 obtain ⟨b3,b4,rfl,L3,L4,F3,F4⟩:=CxP.elim t1
 replace L3:Amb S W b3:=.inl L3
 replace L4:Amb S W b4:=.inl L4
 have bel:=b0 W
 go_enter Tryz.func82,Tryz.ntmps82
 refine gs 3 (Amb S W) fun _ K5=>?_
 refine .bx rfl (fun H=>H.v 0 (.agg #[pt b1,pt b2])) ?_
 refine .bx rfl (fun H=>H.v 1 (.agg #[pt b3,pt b4])) ?_
 refine .al rfl (#[.pointer none,.pointer none]) ?_
 refine .dk (fun u=>.agg #[pt b1,pt b2]::.agg #[pt b3,pt b4]::sq u 0 3 (us 13)) K5 bel fun u1 w1 D bel=>?_
 obtain ⟨b6,E1_0,A6,B6⟩:=D.nw 0
 obtain ⟨b7,E1_1,A7,B7⟩:=D.nw 1
 obtain ⟨b8,E1_2,A8,B8⟩:=D.nw 2
 have N1_8:=D.n1 2 (RatP.lt F1) E1_2
 have N2_8:=D.n1 2 (RatP.lt F2) E1_2
 have N3_8:=D.n1 2 (RatP.lt F3) E1_2
 have N4_8:=D.n1 2 (RatP.lt F4) E1_2
 have N6_8:=D.n2 0 2 E1_0 E1_2
 have N7_8:=D.n2 1 2 E1_1 E1_2
 replace F1:=D.o L1 F1
 replace F2:=D.o L2 F2
 replace F3:=D.o L3 F3
 replace F4:=D.o L4 F4
 clear D
 refine gd1 14 (Amb S W) 13 B8 fun _ K9=>?_
 refine .al rfl zQ ?_
 refine .fz rfl 2 0 E1_0 ?_
 refine .e rfl (V:=pt b1) (fun H=>x_ldc (H.g 6 1) (H.b1 B6 (Ne.symm N6_8))) ?_
 refine .fz rfl 3 0 E1_1 ?_
 refine .e rfl (V:=pt b3) (fun H=>x_ldc (H.g 8 3) (H.b1 B7 (Ne.symm N7_8))) ?_
 refine .cO rfl 0 Tryz.func125 (fun H h0 hz=>⟨_,ar3 (H.p 5 0 h0) (H.g 7 2) (H.g 9 4),qSub _ _ (RatBlk.of hz) (VP.any _ (H.was _ [] (VP.at F1 L1))) (VP.any _ (H.was _ [] (VP.at F3 L3))) (by omega)⟩) ?_
 refine .al rfl zQ ?_
 refine .fz rfl 2 1 E1_0 ?_
 refine .e rfl (V:=pt b2) (fun H=>x_ldc (H.g 12 7) (H.b1 B6 (Ne.symm N6_8))) ?_
 refine .fz rfl 3 1 E1_1 ?_
 refine .e rfl (V:=pt b4) (fun H=>x_ldc (H.g 14 9) (H.b1 B7 (Ne.symm N7_8))) ?_
 refine .cO rfl 6 Tryz.func125 (fun H h0 hz=>⟨_,ar3 (H.p 11 6 h0) (H.g 13 8) (H.g 15 10),qSub _ _ (RatBlk.of hz) (VP.any _ (H.was _ [] (VP.at F2 L2))) (VP.any _ (H.was _ [] (VP.at F4 L4))) (by omega)⟩) ?_
 refine Go2.fn (i:=12) rfl (G0 rfl) (SP.fnL 12 [5,11] (fun u=>.agg #[(u 5).v,(u 11).v]) (by intro u u' h; simp [h 5 (by simp),h 11 (by simp)])) (fun u μ ρ H=>⟨_,by have e10:=H.r 10 5; have e16:=H.r 16 11; obtain ⟨x5,h5⟩:=RatP.isPtr (Own.any (H.a 5 rfl)); obtain ⟨x11,h11⟩:=RatP.isPtr (Own.any (H.a 11 rfl)); clear H; go_simp,SP.fnL_upd (by decide)⟩) ?_
 refine Go2.storeOld (i:=13) 0 b8 rfl rfl rfl ⟨_,_,_,B8,rfl⟩ (SP.old 0 b8 [5,11] (fun u=>#[(u 5).v,(u 11).v]) 81 (by intro u u' h; simp [h 5 (by simp),h 11 (by simp)]) (lt_of B8) (by intro y k hy; match y,hy with | 0,hy=>rfl)) (fun u μ ρ H=>?_) ?_
 · have e4:=H.z 4 E1_2; have e17:=H.e 17 12 (by kernel_rfl) (H.a 12 rfl); have o5:=VP1.rat (Own.any (H.a 5 rfl)); have o11:=VP1.rat (Own.any (H.a 11 rfl)); have hb:=H.blkOld B8 0 13 rfl (.inl rfl)
   refine ⟨μ.setRow b8 #[(u 5).v,(u 11).v],ex_store_row 81 _ _ rfl e4 e17 hb (by kernel_rfl) rfl (by simp [o5,o11] <;> rfl),fun g=>?_,setRow_only _ _ _⟩
   show (World.setRow _ _ _).heap[b8]? = _
   rw [setRow_at hb]; try simp [upd]
 refine .d1 (fun u=>.agg #[pt b1,pt b2]::.agg #[pt b3,pt b4]::sq u1 0 3 (sq u 0 13 [])) K9 bel A8 fun u2 w2 D bel=>?_
 obtain ⟨b10,E2_5,A10,F10⟩:=D.ow 5
 obtain ⟨b11,E2_11,A11,F11⟩:=D.ow 11
 have N8_10:=D.n1 0 (lt_of B8) ((D.a 5 rfl).1.symm.trans E2_5)
 have N8_11:=D.n1 6 (lt_of B8) ((D.a 11 rfl).1.symm.trans E2_11)
 replace B8:w2.heap[b8]? = _:=(D.a 13 rfl)
 simp only [Value.cells,E2_5,E2_11] at B8
 have L10:Amb S W b10:=.inr A10
 have L11:Amb S W b11:=.inr A11
 clear D
 refine wp_ret ?_
 refine ret_ok rfl (by exact results_row rfl (by exact E1_2) B8 Tryz.underlying81 rfl (by kernel_rfl)) ⟨_,rfl,?_,bel⟩
 exact (CxP.mk (VP.at F10 L10) (VP.at F11 L11))
theorem xScale {v0:Value} {v1:Value} (x:Cx) (r:Rat) (t0:(CxP x).p S v0 W) (t1:(RatP r).p S v1 W) (p0:ht x.re + ht x.im + ht r ≤ 34359738368) :
  Calls Tryz.prog 111 #[v0,v1] W (Ret (CxP (x.scale r)) S W):=by
 obtain ⟨b1,b2,rfl,L1,L2,F1,F2⟩:=CxP.elim t0
 replace L1:Amb S W b1:=.inl L1
 replace L2:Amb S W b2:=.inl L2
 obtain ⟨b3,rfl,L3,F3⟩:=RatP.elim t1
 replace L3:Amb S W b3:=.inl L3
 have bel:=b0 W
 go_enter Tryz.func111,Tryz.ntmps111
 refine gs 2 (Amb S W) fun _ K4=>?_
 refine .bx rfl (fun H=>H.v 0 (.agg #[pt b1,pt b2])) ?_
 refine .al rfl (#[.pointer none,.pointer none]) ?_
 refine .dk (fun u=>.agg #[pt b1,pt b2]::pt b3::u 0::U::u 1::us 11) K4 bel fun u1 w1 D bel=>?_
 obtain ⟨b5,E1_0,A5,B5⟩:=D.nw 0
 obtain ⟨b6,E1_1,A6,B6⟩:=D.nw 1
 have N1_6:=D.n1 1 (RatP.lt F1) E1_1
 have N2_6:=D.n1 1 (RatP.lt F2) E1_1
 have N3_6:=D.n1 1 (RatP.lt F3) E1_1
 have N5_6:=D.n2 0 1 E1_0 E1_1
 replace F1:=D.o L1 F1
 replace F2:=D.o L2 F2
 replace F3:=D.o L3 F3
 clear D
 refine gd1 12 (Amb S W) 11 B6 fun _ K7=>?_
 refine .al rfl zQ ?_
 refine .fz rfl 2 0 E1_0 ?_
 refine .e rfl (V:=pt b1) (fun H=>x_ldc (H.g 6 1) (H.b1 B5 (Ne.symm N5_6))) ?_
 refine .mz rfl 1 (V:=pt b3) rfl ?_
 refine .cO rfl 0 Tryz.func124 (fun H h0 hz=>⟨_,ar3 (H.p 5 0 h0) (H.g 7 2) (H.g 8 3),qMul _ _ (RatBlk.of hz) (VP.any _ (H.was _ [] (VP.at F1 L1))) (VP.any _ (H.was _ [] (VP.at F3 L3))) (by omega)⟩) ?_
 refine .al rfl zQ ?_
 refine .fz rfl 2 1 E1_0 ?_
 refine .e rfl (V:=pt b2) (fun H=>x_ldc (H.g 11 6) (H.b1 B5 (Ne.symm N5_6))) ?_
 refine .mz rfl 1 (V:=pt b3) rfl ?_
 refine .cO rfl 5 Tryz.func124 (fun H h0 hz=>⟨_,ar3 (H.p 10 5 h0) (H.g 12 7) (H.g 13 8),qMul _ _ (RatBlk.of hz) (VP.any _ (H.was _ [] (VP.at F2 L2))) (VP.any _ (H.was _ [] (VP.at F3 L3))) (by omega)⟩) ?_
 refine Go2.fn (i:=10) rfl (G0 rfl) (SP.fnL 10 [4,9] (fun u=>.agg #[(u 4).v,(u 9).v]) (by intro u u' h; simp [h 4 (by simp),h 9 (by simp)])) (fun u μ ρ H=>⟨_,by have e9:=H.r 9 4; have e14:=H.r 14 9; obtain ⟨x4,h4⟩:=RatP.isPtr (Own.any (H.a 4 rfl)); obtain ⟨x9,h9⟩:=RatP.isPtr (Own.any (H.a 9 rfl)); clear H; go_simp,SP.fnL_upd (by decide)⟩) ?_
 refine Go2.storeOld (i:=11) 0 b6 rfl rfl rfl ⟨_,_,_,B6,rfl⟩ (SP.old 0 b6 [4,9] (fun u=>#[(u 4).v,(u 9).v]) 81 (by intro u u' h; simp [h 4 (by simp),h 9 (by simp)]) (lt_of B6) (by intro y k hy; match y,hy with | 0,hy=>rfl)) (fun u μ ρ H=>?_) ?_
 · have e4:=H.z 4 E1_1; have e15:=H.e 15 10 (by kernel_rfl) (H.a 10 rfl); have o4:=VP1.rat (Own.any (H.a 4 rfl)); have o9:=VP1.rat (Own.any (H.a 9 rfl)); have hb:=H.blkOld B6 0 11 rfl (.inl rfl)
   refine ⟨μ.setRow b6 #[(u 4).v,(u 9).v],ex_store_row 81 _ _ rfl e4 e15 hb (by kernel_rfl) rfl (by simp [o4,o9] <;> rfl),fun g=>?_,setRow_only _ _ _⟩
   show (World.setRow _ _ _).heap[b6]? = _
   rw [setRow_at hb]; try simp [upd]
 refine .d1 (fun u=>.agg #[pt b1,pt b2]::pt b3::u1 0::U::u1 1::sq u 0 11 []) K7 bel A6 fun u2 w2 D bel=>?_
 obtain ⟨b8,E2_4,A8,F8⟩:=D.ow 4
 obtain ⟨b9,E2_9,A9,F9⟩:=D.ow 9
 have N6_8:=D.n1 0 (lt_of B6) ((D.a 4 rfl).1.symm.trans E2_4)
 have N6_9:=D.n1 5 (lt_of B6) ((D.a 9 rfl).1.symm.trans E2_9)
 replace B6:w2.heap[b6]? = _:=(D.a 11 rfl)
 simp only [Value.cells,E2_4,E2_9] at B6
 have L8:Amb S W b8:=.inr A8
 have L9:Amb S W b9:=.inr A9
 clear D
 refine wp_ret ?_
 refine ret_ok rfl (by exact results_row rfl (by exact E1_1) B6 Tryz.underlying81 rfl (by kernel_rfl)) ⟨_,rfl,?_,bel⟩
 exact (CxP.mk (VP.at F8 L8) (VP.at F9 L9))
end Go.Proofs.YtllohoibifcmdaaGreat
namespace Go.Proofs.YtllohoibifcmdaaGreat
open Go.RowKit Rgn
def HalfAt (cc dd:Value) (w:World) (b:Nat) (n:Int):Prop:=∃ v,w.heap[b]? = some (.cells #[.bool (decide (n < 0)),v,cc,dd] 102 (0,0)) ∧ Mag w v n.natAbs
def HalfO (cc dd:Value) (n:Int):VP :=
  ⟨fun S v w=>∃ b,v = .pointer (some ⟨b,0,none⟩) ∧ S b ∧ HalfAt cc dd w b n,
   fun {S S' v w} hS ⟨b,h1,h2,h3⟩=>⟨b,h1,hS b (by obtain ⟨v,h4,_⟩:=h3; exact lt_of h4) h2,h3⟩,
   fun {S v w w'} h ⟨b,h1,h2,h3⟩=>⟨b,h1,h2,by obtain ⟨v,h4,h5⟩:=h3; exact ⟨v,h.num h2 h4 rfl,h5.grow h⟩⟩⟩
theorem HalfO.at {cc dd:Value} {n:Int} {b:Nat} {S:Nat → Prop} {w} (h:(HalfO cc dd n).p S (.pointer (some ⟨b,0,none⟩)) w):HalfAt cc dd w b n:=by
 obtain ⟨_,e,_,h⟩:=h; cases e; exact h
def HalfBlk (cc dd:Value) (w:World) (z:Nat):Prop:=∃ a b,w.heap[z]? = some (.cells #[a,b,cc,dd] 102 (0,0))
theorem HalfBlk.of {cc dd:Value} {w:World} {b:Nat} {x y:Value} (h:w.heap[b]? = some (.cells #[x,y,cc,dd] 102 (0,0))):HalfBlk cc dd w b:=⟨_,_,h⟩
theorem half_eq {cc dd:Value} {a b:Int} (h:a = b) {S:Nat → Prop} {v:Value} {w:World} (F:(HalfO cc dd a).p S v w):(HalfO cc dd b).p S v w:=h ▸ F
theorem bIsR {cc dd:Value} {W:World} {z:Nat} {v2:Value} (neg:Bool) (n:Nat) (hz:HalfBlk cc dd W z) {S:Nat → Prop} (t2:(RawP n).p S v2 W) :
  Calls Tryz.prog 126 #[.pointer (some ⟨z,0,none⟩),.bool neg,v2] W (RetOwn z (HalfO cc dd (sgn neg n)) W):=by
 obtain ⟨l,hw,rfl⟩:=t2
 obtain ⟨x,y,hB⟩:=hz
 have hcut:=bigcut_any v2 l W hw
 have hM:=cut_mag hw
 obtain ⟨p,m,c,hp,hm0,hm1⟩:=Mag.open hM
 rw [hp] at hcut hM
 have hb1:(neg && val l != 0) = (neg && !decide (val l = 0)):=by cases neg <;> simp [bne]; try (by_cases h:val l = 0 <;> simp [h])
 have hO:Only z W ((W.setCell ⟨z,1,none⟩ (.slice p m c)).setCell ⟨z,0,none⟩ (.bool (neg && val l != 0))):=(setCell_only W ⟨z,1,none⟩ _).trans (setCell_only _ ⟨z,0,none⟩ _)
 have hB1:=setCell_at (o:=1) (v:=.slice p m c) hB
 have hB2:=setCell_at (o:=0) (v:=.bool (neg && val l != 0)) hB1
 have hMag:=MagP (val l) |>.grow (hO.growF (.inl ⟨_,_,hB,rfl⟩)) (S:=fun _=>False) hM
 have HR:RetOwn z (HalfO cc dd (sgn neg (val l))) W (.returned (.pointer (some ⟨z,0,none⟩))) ((W.setCell ⟨z,1,none⟩ (.slice p m c)).setCell ⟨z,0,none⟩ (.bool (neg && val l != 0))):=by
  refine ⟨rfl,⟨z,rfl,rfl,.slice p m c,?_,by rw [sgn_abs]; exact hMag⟩,hO⟩
  rw [hB2,← sgn_neg]; rfl
 have HR:=Lib.hid HR
 have hf1:W.frozen? ⟨z,1,none⟩ = false:=frozen_of hB
 have hf2:=frozen_of (off:=0) hB1
 have hcc1:=cell_of (off:=1) hB rfl
 have hcc2:=cell_of (off:=0) hB1 rfl
 have hcc3:=cell_of (off:=1) hB1 rfl
 have hmI:decide ((0:Int) < (m:Int)) = !decide (val l = 0):=by rw [← len_gt hm0]; simp
 have hm2:=len_gt hm0
 have hcc1' : W.cell? ⟨z,1,none⟩ = some y:=hcc1
 have hcc2' : (W.setCell ⟨z,1,none⟩ (.slice p m c)).cell? ⟨z,0,none⟩ = some x:=hcc2
 have hcc3' : (W.setCell ⟨z,1,none⟩ (.slice p m c)).cell? ⟨z,1,none⟩ = some (.slice p m c):=hcc3
 clear hcc1 hcc2 hcc3 hB1 hp hm0 hB2 hM hMag hO hw
 cases neg with
 | false =>
  simp only [Bool.false_and] at HR
  clear hb1 hm2 hmI
  go_enter Tryz.func126,Tryz.ntmps126
  go_wp2_with fail
  go_call hcut as _ _ ⟨rfl,rfl⟩
  go_wp2_with fail
  exact ret_ok rfl (by exact results_tmp' rfl rfl) HR.out
 | true =>
  simp only [Bool.true_and] at HR hb1
  rw [hb1,← hm2] at HR
  clear hb1 hm2 hmI
  generalize sgn true (val l) = sg at *
  go_enter Tryz.func126,Tryz.ntmps126
  go_wp2_with fail
  go_call hcut as _ _ ⟨rfl,rfl⟩
  go_wp2_with fail
  exact ret_ok rfl (by exact results_tmp' rfl rfl) HR.out
set_option maxHeartbeats 1000000 in
theorem bSetR {cc dd:Value} {S:Nat → Prop} {W:World} {z:Nat} {v1:Value} (x:Int) (hz:HalfBlk cc dd W z) (t1:(IntP x).p S v1 W) (p0:hi x ≤ 1099511627776) :
  Calls Tryz.prog 128 #[.pointer (some ⟨z,0,none⟩),v1] W (RetOwn z (HalfO cc dd x) W):=by
 obtain ⟨z_0,z_1,B_z⟩:=hz
 obtain ⟨b1,ob1,rfl,L1,F1⟩:=IntP.elim t1
 replace L1:Amb S W b1:=.inl L1
 have q0:=hi_bl x
 have bel:Only z W W:=Only.refl _ _
 have nW:W.heap.size ≤ W.heap.size:=Nat.le_refl _
 go_enter Tryz.func128,Tryz.ntmps128
 refine wp_seq_k fun K2 hK2=>?_
 refine go2_seq 1 rfl (Amb S W) [] [] (Olds.nil _) (by kernel_rfl) ?_
 refine Go2.eq (i:=0) rfl (G0 rfl) (V:=.pointer none) (by intro u μ ρ H; have k0:=H.const (.pointer none:Value); clear H; go_simp) ?_
 refine Go2.done (fun u=>⟨#[.pointer (some ⟨z,0,none⟩),.pointer (some ⟨b1,ob1,none⟩),undef,undef,(u 0).v,undef,undef,undef,undef,undef,undef,undef,undef,undef,undef,undef],[]⟩) (fun u=>by kernel_rfl) (by kernel_rfl) fun u1 w1 D=>?_
 have E1_0:(u1 0).v = (.pointer none):=(D.f (.head _))
 replace B_z:=D.base.keep0 B_z
 replace F1:=D.base.one _ L1 F1
 replace bel:=D.base.only0 bel
 replace nW:=Nat.le_trans nW D.base.grow.size
 clear D
 refine hK2 _ _ ?_
 refine wp_seq_k fun K3 hK3=>?_
 refine go2_drawnT (by kernel_rfl) 10 2 rfl (by decide) (by kernel_rfl) (Amb S W) [] [] (Olds.nil _) (by kernel_rfl) ?_
 refine Go2.eq (i:=0) rfl (G0 rfl) (V:=.pointer (some ⟨z,0,none⟩)) (by intro u μ ρ H; have e0:=H.s0 0 (by kernel_rfl); clear H; go_simp) ?_
 refine Go2.eq (i:=1) rfl (G0 rfl) (V:=.pointer (some ⟨b1,ob1,none⟩)) (by intro u μ ρ H; have e1:=H.s0 1 (by kernel_rfl); clear H; go_simp) ?_
 refine Go2.eq (i:=2) rfl (G0 rfl) (V:=.pointer (some ⟨b1,ob1,none⟩)) (by intro u μ ρ H; have e6:=H.e 6 1 (by kernel_rfl) (H.f (.head _) (by kernel_rfl)); clear H; go_simp) ?_
 refine Go2.eq (i:=3) rfl (G0 rfl) (V:=.pointer (some ⟨b1,ob1,none⟩)) (by intro u μ ρ H; have e7:=H.e 7 2 (by kernel_rfl) (H.f (.head _) (by kernel_rfl)); clear H; go_simp) ?_
 refine Go2.eq (i:=4) rfl (G0 rfl) (V:=.bool (decide (x < 0))) (by intro u μ ρ H; have e8:=H.e 8 3 (by kernel_rfl) (H.f (.head _) (by kernel_rfl)); have c1:=IntP.c0 (k:=ob1) (VP.any _ (H.was _ [] (VP.at F1 L1))) rfl; clear H; go_simp) ?_
 refine Go2.eq (i:=5) rfl (G0 rfl) (V:=.pointer (some ⟨b1,ob1,none⟩)) (by intro u μ ρ H; have e1:=H.s0 1 (by kernel_rfl); clear H; go_simp) ?_
 refine Go2.eq (i:=6) rfl (G0 rfl) (V:=.pointer (some ⟨b1,ob1,none⟩)) (by intro u μ ρ H; have e10:=H.e 10 5 (by kernel_rfl) (H.f (.head _) (by kernel_rfl)); clear H; go_simp) ?_
 refine Go2.eq (i:=7) rfl (G0 rfl) (V:=.pointer (some ⟨b1,ob1 + 1,none⟩)) (by intro u μ ρ H; have e11:=H.e 11 6 (by kernel_rfl) (H.f (.head _) (by kernel_rfl)); clear H; go_simp) ?_
 refine Go2.fn (i:=8) rfl (G0 rfl) (.val 8 [] (MagP x.natAbs)) (fun u μ ρ H=>by have e12:=H.e 12 7 (by kernel_rfl) (H.f (.head _) (by kernel_rfl)); obtain ⟨v_,c1,hm_⟩:=IntP.c1 (k:=ob1 + 1) (VP.any _ (H.was _ [] (VP.at F1 L1))) rfl; exact ⟨v_,by clear H hm_; go_simp,SP.magVal hm_⟩) ?_
 refine Go2.grow (i:=9) rfl (G0 rfl) (.val 9 [] (MagP x.natAbs)) (fun u μ ρ H=>by have k0:=H.const (.slice none 0 0:Value); have e13:=H.s 13 8 (by kernel_rfl); obtain ⟨v_,w_,hr_,hm_,hb_⟩:=append_mag 96 (n:=x.natAbs) (show Mag _ (u 8).v _ from (SV.any (H.f (.head _) (by kernel_rfl)))) (by omega); exact ⟨v_,w_,ex_append rfl (H.const _) e13 hr_,SP.magVal hm_,hb_⟩) ?_
 refine Go2.doneT (fun u=>⟨#[.pointer (some ⟨z,0,none⟩),.pointer (some ⟨b1,ob1,none⟩),undef,undef,(u 11).v,(u 0).v,(u 1).v,(u 2).v,(u 3).v,(u 4).v,(u 5).v,(u 6).v,(u 7).v,(u 8).v,(u 9).v,(u 10).v],[]⟩) (fun u _=>by kernel_rfl) (by kernel_rfl) _ rfl fun u2 w2 D=>?_
 obtain ⟨x4,E2_9,F_x4⟩:∃ x_,(u2 9).v = x_ ∧ (MagP x.natAbs).p (Amb S W) x_ w2:=⟨_,rfl,D.r (.head _) (fun k hk=>hk.elim (fun h=>h.1) (fun h=>.inr (Nat.le_trans nW h)))⟩
 have E2_0:(u2 0).v = (.pointer (some ⟨z,0,none⟩)):=(D.f (.tail _ (.tail _ (.tail _ (.tail _ (.tail _ (.tail _ (.tail _ (.tail _ (.tail _ (.head _)))))))))))
 have E2_4:(u2 4).v = (.bool (decide (x < 0))):=(D.f (.tail _ (.tail _ (.tail _ (.tail _ (.tail _ (.head _)))))))
 replace B_z:=D.base.keep0 B_z
 replace bel:=D.base.only0 bel
 replace nW:=Nat.le_trans nW D.base.grow.size
 clear D
 refine wpT_callO (args:=#[.pointer (some ⟨z,0,none⟩),.bool (decide (x < 0)),x4]) rfl (ex_call rfl rfl Tryz.func126 (by kernel_rfl) (by kernel_rfl) (by simp only [List.map_toArray,List.map_cons,List.map_nil]; show #[(u2 0).v,(u2 4).v,(u2 9).v] = #[.pointer (some ⟨z,0,none⟩),.bool (decide (x < 0)),x4]; rw [E2_0,E2_4,E2_9])) (bIsR (cc:=cc) (dd:=dd) (z:=z) (neg:=(decide (x < 0))) (n:=x.natAbs) (HalfBlk.of B_z) (MagP.raw (VP.any _ F_x4)) ) fun w5 fw5 ow5=>?_
 have sw5:Soft w2 z ∨ Local w2 z:=.inl ⟨_,_,B_z,rfl⟩
 have F_z:=fw5
 replace bel:=bel.trans ow5
 replace nW:=Nat.le_trans nW ow5.size
 refine wpT_val rfl (ex_assign rfl) ?_
 refine wpList_nil ?_
 show _
 refine hK3 _ _ ?_
 refine wp_ret ?_
 refine ret_ok rfl (by exact results_tmp' rfl rfl) ⟨rfl,?_,bel⟩
 exact half_eq (sgn_self x) F_z
theorem bNegR {cc dd:Value} {W:World} {z:Nat} {S:Nat → Prop} {v1:Value} (hz:HalfBlk cc dd W z) (x:Int) (t1:(IntP x).p S v1 W) (p0:hi x ≤ 1099511627776) :
  Calls Tryz.prog 195 #[.pointer (some ⟨z,0,none⟩),v1] W (RetOwn z (HalfO cc dd (-x)) W):=by
 have hS:=bSetR x hz t1 p0
 have hT:=fun (w1:World) (h:(HalfO cc dd x).p (· = z) (.pointer (some ⟨z,0,none⟩)) w1)=>HalfO.at h
 have hN:=neg_cell x
 have hA:=Int.natAbs_neg x
 go_enter Tryz.func195,Tryz.ntmps195
 go_wp2_with fail
 go_call hS as _ w1 ⟨rfl,hf,ho⟩
 obtain ⟨v,hB,hM⟩:=hT w1 hf
 obtain ⟨p,m,c,rfl,hm0,hm1⟩:=Mag.open hM
 have hm:=len_gt hm0
 have hO:Only z w1 (w1.setCell ⟨z,0,none⟩ (.bool (decide (-x < 0)))):=setCell_only _ ⟨z,0,none⟩ _
 have hB2:=setCell_at (o:=0) (v:=.bool (decide (-x < 0))) hB
 have hMag:=MagP x.natAbs |>.grow (hO.growF (.inl ⟨_,_,hB,rfl⟩)) (S:=fun _=>False) hM
 have HR:RetOwn z (HalfO cc dd (-x)) W (.returned (.pointer (some ⟨z,0,none⟩))) (w1.setCell ⟨z,0,none⟩ (.bool (decide (-x < 0)))) :=
  ⟨rfl,⟨z,rfl,rfl,.slice p m c,hB2,by rw [Int.natAbs_neg]; exact hMag⟩,ho.trans hO⟩
 rw [← hN,← hm] at HR
 have HR:=Lib.hid HR
 have hf1:w1.frozen? ⟨z,0,none⟩ = false:=frozen_of hB
 have hcc0:w1.cell? ⟨z,0,none⟩ = some (.bool (decide (x < 0))):=cell_of (off:=0) hB rfl
 have hcc1:w1.cell? ⟨z,1,none⟩ = some (.slice p m c):=cell_of (off:=1) hB rfl
 clear hO hB2 hMag hB hM hT hN hA hm0 hm1 hm hf ho hS p0 t1 hz
 generalize decide (x < 0) = q at *
 cases q with
 | true =>
  go_wp2_with fail
  exact ret_ok rfl (by exact results_tmp' rfl rfl) HR.out
 | false =>
  go_wp2_with fail
  exact ret_ok rfl (by exact results_tmp' rfl rfl) HR.out
def RatF (q:Rat):VP :=
  ⟨fun S v w=>∃ b,v = .pointer (some ⟨b,0,none⟩) ∧ S b ∧ RatAt w b q,
   fun {S S' v w} hS ⟨b,h1,h2,h3⟩=>⟨b,h1,hS b (by obtain ⟨_,_,h4,_⟩:=h3; exact lt_of h4) h2,h3⟩,
   fun {S v w w'} h ⟨b,h1,h2,h3⟩=>⟨b,h1,h2,h3.grow h2 h⟩⟩
theorem RatF.of {q:Rat} {d:Int} (h' : d = (q.den:Int)) {z:Nat} {w:World} {v1 v2:Value}
  (hB:w.heap[z]? = some (.cells #[.bool (decide (q.num < 0)),v1,.bool (decide (d < 0)),v2] 102 (0,0))) (h1:Mag w v1 q.num.natAbs) (h2:Mag w v2 d.natAbs) :
  (RatF q).p (· = z) (.pointer (some ⟨z,0,none⟩)) w:=by
 subst h'
 rw [decide_eq_false (show ¬ (q.den:Int) < 0 by omega)] at hB
 exact ⟨z,rfl,rfl,v1,v2,hB,h1,h2⟩
theorem RatF.at {q:Rat} {b:Nat} {S:Nat → Prop} {w} (h:(RatF q).p S (.pointer (some ⟨b,0,none⟩)) w):RatAt w b q:=by
 obtain ⟨_,e,_,h⟩:=h; cases e; exact h
theorem RatF.p {q S v w} (h:(RatF q).p S v w):(RatP q).p S v w:=by
 obtain ⟨b,h1,h2,h3⟩:=h; exact ⟨b,h1,h2,.inl h3⟩
set_option maxHeartbeats 1000000 in
theorem qSetF {S:Nat → Prop} {W:World} {z:Nat} {v1:Value} (x:Rat) (hz:RatBlk W z) (t1:(RatP x).p S v1 W) (p0:ht x ≤ 68719476736) :
  Calls Tryz.prog 198 #[.pointer (some ⟨z,0,none⟩),v1] W (RetOwn z (RatF x) W):=by
 have hS_:∃ S' : Nat → Prop,S' z ∧ (RatP x).p S' v1 W:=⟨fun k=>S k ∨ k = z,.inr rfl,(RatP x).mono (fun _ _ h=>.inl h) t1⟩
 clear t1
 obtain ⟨S,L_z,t1⟩:=hS_
 replace L_z:Amb S W z:=.inl L_z
 obtain ⟨z_0,z_1,z_2,z_3,B_z⟩:=hz
 obtain ⟨b1,rfl,L1,F1⟩:=RatP.elim t1
 replace L1:Amb S W b1:=.inl L1
 have n0:=hi_num x
 have n2:=hi_den x
 have bel:Only z W W:=Only.refl _ _
 have nW:W.heap.size ≤ W.heap.size:=Nat.le_refl _
 go_enter Tryz.func198,Tryz.ntmps198
 refine wp_seq_k fun K2 hK2=>?_
 refine go2_seq 1 rfl (Amb S W) [] [] (Olds.nil _) (by kernel_rfl) ?_
 refine Go2.eq (i:=0) rfl (G0 rfl) (V:=.pointer none) (by intro u μ ρ H; have k0:=H.const (.pointer none:Value); clear H; go_simp) ?_
 refine Go2.done (fun u=>⟨#[.pointer (some ⟨z,0,none⟩),.pointer (some ⟨b1,0,none⟩),undef,undef,(u 0).v,undef,undef,undef,undef,undef,undef,undef,undef,undef,undef,undef,undef,undef,undef,undef,undef,undef,undef,undef,undef,undef,undef,undef,undef],[]⟩) (fun u=>by kernel_rfl) (by kernel_rfl) fun u1 w1 D=>?_
 have E1_0:(u1 0).v = (.pointer none):=(D.f (.head _))
 replace B_z:=D.base.keep0 B_z
 replace F1:=D.base.one _ L1 F1
 replace bel:=D.base.only0 bel
 replace nW:=Nat.le_trans nW D.base.grow.size
 clear D
 refine hK2 _ _ ?_
 refine wp_seq_k fun K3 hK3=>?_
 refine go2_seq 11 rfl (Amb S W) [] [] (Olds.nil _) (by kernel_rfl) ?_
 refine Go2.alloc (i:=0) rfl rfl (c:=#[.bool false,.slice none 0 0]) (T:=98) (by intro u μ ρ H; clear H; go_simp) ?_
 refine Go2.eq (i:=1) rfl (G0 rfl) (V:=.pointer (some ⟨b1,0,none⟩)) (by intro u μ ρ H; have e1:=H.s0 1 (by kernel_rfl); clear H; go_simp) ?_
 refine Go2.eq (i:=2) rfl (G0 rfl) (V:=.pointer (some ⟨b1,0,none⟩)) (by intro u μ ρ H; have e8:=H.e 8 1 (by kernel_rfl) (H.f (.head _) (by kernel_rfl)); clear H; go_simp) ?_
 refine Go2.eq (i:=3) rfl (G0 rfl) (V:=.pointer (some ⟨b1,0,none⟩)) (by intro u μ ρ H; have e9:=H.e 9 2 (by kernel_rfl) (H.f (.head _) (by kernel_rfl)); clear H; go_simp) ?_
 refine Go2.callO (i:=4) (m:=0) rfl rfl (.tail _ (.tail _ (.tail _ (.head _)))) rfl (IntO x.num) (f:=128) (fun u μ ρ b H h0 hz=>⟨#[.pointer (some ⟨b,0,none⟩),.pointer (some ⟨b1,0,none⟩)],by have e7:=H.s 7 0 (by kernel_rfl); have e10:=H.e 10 3 (by kernel_rfl) (H.f (.head _) (by kernel_rfl)); rw [h0] at e7; exact ex_call rfl (H.func _) Tryz.func128 (by kernel_rfl) (by kernel_rfl) (by simp only [List.map_toArray,List.map_cons,List.map_nil,e7,e10]),bSet (z:=b) (x:=x.num) (IntBlk.of hz) (RatP.num (VP.any _ (H.was _ [] (VP.at F1 L1)))) (by omega)⟩) ?_
 refine Go2.alloc (i:=5) rfl rfl (c:=#[.bool false,.slice none 0 0]) (T:=98) (by intro u μ ρ H; clear H; go_simp) ?_
 refine Go2.eq (i:=6) rfl (G0 rfl) (V:=.pointer (some ⟨b1,0,none⟩)) (by intro u μ ρ H; have e1:=H.s0 1 (by kernel_rfl); clear H; go_simp) ?_
 refine Go2.callR (i:=7) rfl (G0 rfl) [] rfl (IntP (x.den:Int)) (f:=129) (fun u μ ρ H=>⟨#[.pointer (some ⟨b1,0,none⟩)],by have e13:=H.e 13 6 (by kernel_rfl) (H.f (.head _) (by kernel_rfl)); exact ex_call rfl (H.func _) Tryz.func129 (by kernel_rfl) (by kernel_rfl) (by simp only [List.map_toArray,List.map_cons,List.map_nil,e13]),bDen (q:=x) (H.was _ [] (VP.at F1 L1)) ⟩) ?_
 refine Go2.callO (i:=8) (m:=5) rfl rfl (.tail _ (.tail _ (.head _))) rfl (IntO (x.den:Int)) (f:=128) (fun u μ ρ b H h0 hz=>⟨#[.pointer (some ⟨b,0,none⟩),(u 7).v],by have e12:=H.s 12 5 (by kernel_rfl); have e14:=H.s 14 7 (by kernel_rfl); rw [h0] at e12; exact ex_call rfl (H.func _) Tryz.func128 (by kernel_rfl) (by kernel_rfl) (by simp only [List.map_toArray,List.map_cons,List.map_nil,e12,e14]),bSet (z:=b) (x:=(x.den:Int)) (IntBlk.of hz) (SV.any (H.f (.head _) (by kernel_rfl))) (by omega)⟩) ?_
 refine Go2.fn (i:=9) rfl (G0 rfl) (.own 9 0 (IntO x.num)) (fun u μ ρ H=>⟨(u 4).v,by have e11:=H.s 11 4 (by kernel_rfl); clear H; go_simp,Own.keep rfl rfl (H.f (.tail _ (.tail _ (.tail _ (.tail _ (.head _))))) (by kernel_rfl))⟩) ?_
 refine Go2.fn (i:=10) rfl (G0 rfl) (.own 10 5 (IntO (x.den:Int))) (fun u μ ρ H=>⟨(u 8).v,by have e15:=H.s 15 8 (by kernel_rfl); clear H; go_simp,Own.keep rfl rfl (H.f (.tail _ (.head _)) (by kernel_rfl))⟩) ?_
 refine Go2.done (fun u=>⟨#[.pointer (some ⟨z,0,none⟩),.pointer (some ⟨b1,0,none⟩),undef,undef,(u1 0).v,(u 9).v,(u 10).v,(u 0).v,(u 1).v,(u 2).v,(u 3).v,(u 4).v,(u 5).v,(u 6).v,(u 7).v,(u 8).v,undef,undef,undef,undef,undef,undef,undef,undef,undef,undef,undef,undef,undef],[]⟩) (fun u=>by kernel_rfl) (by kernel_rfl) fun u2 w2 D=>?_
 obtain ⟨E2_9,b4,eM,A4,F4⟩:=(D.f (.tail _ (.head _)))
 replace E2_9:=E2_9.trans eM
 clear eM
 obtain ⟨E2_10,b5,eM,A5,F5⟩:=(D.f (.head _))
 replace E2_10:=E2_10.trans eM
 clear eM
 have N_z_b4:z ≠ b4:=Nat.ne_of_lt (Nat.lt_of_lt_of_le (lt_of B_z) A4)
 have N_z_b5:z ≠ b5:=Nat.ne_of_lt (Nat.lt_of_lt_of_le (lt_of B_z) A5)
 replace B_z:=D.base.keep0 B_z
 replace A4:=Nat.le_trans nW A4
 have L4:Amb S W b4:=.inr A4
 replace A5:=Nat.le_trans nW A5
 have L5:Amb S W b5:=.inr A5
 replace bel:=D.base.only0 bel
 replace nW:=Nat.le_trans nW D.base.grow.size
 clear D
 refine hK3 _ _ ?_
 refine wp_seq_k fun K6 hK6=>?_
 refine go2_drawnT (by kernel_rfl) 13 1 rfl (by decide) (by kernel_rfl) (fun k=>Amb S W k ∧ k ≠ z) [(z,10)] [10] (Olds.one (lt_of B_z)) (by kernel_rfl) ?_
 refine Go2.eq (i:=0) rfl (G0 rfl) (V:=.pointer (some ⟨z,0,none⟩)) (by intro u μ ρ H; have e0:=H.s0 0 (by kernel_rfl); clear H; go_simp) ?_
 refine Go2.eq (i:=1) rfl (G0 rfl) (V:=.pointer (some ⟨z,0,none⟩)) (by intro u μ ρ H; have e0:=H.s0 0 (by kernel_rfl); clear H; go_simp) ?_
 refine Go2.eq (i:=2) rfl (G0 rfl) (V:=.pointer (some ⟨b4,0,none⟩)) (by intro u μ ρ H; have e5:=(H.s0 5 (by kernel_rfl)).trans E2_9; clear H; go_simp) ?_
 refine Go2.eq (i:=3) rfl (G0 rfl) (V:=.pointer (some ⟨b4,0,none⟩)) (by intro u μ ρ H; have e18:=H.e 18 2 (by kernel_rfl) (H.f (.head _) (by kernel_rfl)); clear H; go_simp) ?_
 refine Go2.fn (i:=4) rfl (G0 rfl) (.val 4 [] (IntV x.num)) (fun u μ ρ H=>by have e19:=H.e 19 3 (by kernel_rfl) (H.f (.head _) (by kernel_rfl)); obtain ⟨v_,hB_,hm_⟩:=IntO.at (VP.any _ (H.was _ [] (VP.at F4 (And.intro L4 (Ne.symm N_z_b4))))); exact ⟨_,ex_load_row 98 _ rfl e19 hB_ Tryz.underlying98 rfl (by kernel_rfl),SP.intV hm_⟩) ?_
 refine Go2.eq (i:=5) rfl (G0 rfl) (V:=.pointer (some ⟨b5,0,none⟩)) (by intro u μ ρ H; have e6:=(H.s0 6 (by kernel_rfl)).trans E2_10; clear H; go_simp) ?_
 refine Go2.eq (i:=6) rfl (G0 rfl) (V:=.pointer (some ⟨b5,0,none⟩)) (by intro u μ ρ H; have e21:=H.e 21 5 (by kernel_rfl) (H.f (.head _) (by kernel_rfl)); clear H; go_simp) ?_
 refine Go2.fn (i:=7) rfl (G0 rfl) (.val 7 [] (IntV (x.den:Int))) (fun u μ ρ H=>by have e22:=H.e 22 6 (by kernel_rfl) (H.f (.head _) (by kernel_rfl)); obtain ⟨v_,hB_,hm_⟩:=IntO.at (VP.any _ (H.was _ [] (VP.at F5 (And.intro L5 (Ne.symm N_z_b5))))); exact ⟨_,ex_load_row 98 _ rfl e22 hB_ Tryz.underlying98 rfl (by kernel_rfl),SP.intV hm_⟩) ?_
 refine Go2.eq (i:=8) rfl (G0 rfl) (V:=.pointer (some ⟨z,0,none⟩)) (by intro u μ ρ H; have e16:=H.e 16 0 (by kernel_rfl) (H.f (.tail _ (.tail _ (.tail _ (.tail _ (.tail _ (.tail _ (.tail _ (.head _)))))))) (by kernel_rfl)); clear H; go_simp) ?_
 refine Go2.eq (i:=9) rfl (G0 rfl) (V:=.pointer (some ⟨z,0,none⟩)) (by intro u μ ρ H; have e24:=H.e 24 8 (by kernel_rfl) (H.f (.head _) (by kernel_rfl)); clear H; go_simp) ?_
 refine Go2.storeSoft (i:=10) 0 z rfl rfl rfl ⟨_,_,B_z,rfl⟩ (fun h=>h.2 rfl) (SP.old 0 z [4] (fun u=>#[.bool (decide (x.num < 0)),((u 4).v.cells.getD 1 undef),z_2,z_3]) 102 (by intro u u' h; simp [h 4 (by simp)]) (lt_of B_z) (by intro y k hy; match y,hy with | 0,hy=>rfl)) (fun u μ ρ H=>?_) ?_
 ·have e25:=H.e 25 9 (by kernel_rfl) (H.f (.head _) (by kernel_rfl)); have e20:=H.s 20 4 (by kernel_rfl); have hb:=H.blkOld B_z 0 10 rfl (.inl rfl)
  obtain ⟨x1,x2,h1,h2,h3⟩:=(H.f (.tail _ (.tail _ (.tail _ (.tail _ (.tail _ (.head _)))))) (by kernel_rfl))
  obtain rfl:x1 = _:=h2
  have o2:=VP1.mag h3
  rw [h1] at e20
  refine ⟨μ.setRow z #[.bool (decide (x.num < 0)),x2,z_2,z_3],ex_store_part 98 _ _ rfl e25 e20 hb (by kernel_rfl) (by simp) (by simp [o2] <;> rfl) (by simp),fun g=>?_,setRow_only _ _ _⟩
  show (World.setRow _ _ _).heap[z]? = _
  rw [setRow_at hb]; try simp [upd,h1,Value.cells]
 refine Go2.eq (i:=11) rfl (G0 rfl) (V:=.pointer (some ⟨z,0,none⟩)) (by intro u μ ρ H; have e17:=H.e 17 1 (by kernel_rfl) (H.f (.tail _ (.tail _ (.tail _ (.tail _ (.tail _ (.tail _ (.tail _ (.tail _ (.tail _ (.head _)))))))))) (by kernel_rfl)); clear H; go_simp) ?_
 refine Go2.eq (i:=12) rfl (G0 rfl) (V:=.pointer (some ⟨z,2,none⟩)) (by intro u μ ρ H; have e26:=H.e 26 11 (by kernel_rfl) (H.f (.head _) (by kernel_rfl)); clear H; go_simp) ?_
 refine Go2.doneT (fun u=>⟨#[.pointer (some ⟨z,0,none⟩),.pointer (some ⟨b1,0,none⟩),undef,undef,(u1 0).v,(u2 9).v,(u2 10).v,(u2 0).v,(u2 1).v,(u2 2).v,(u2 3).v,(u2 4).v,(u2 5).v,(u2 6).v,(u2 7).v,(u2 8).v,(u 0).v,(u 1).v,(u 2).v,(u 3).v,(u 4).v,(u 5).v,(u 6).v,(u 7).v,(u 8).v,(u 9).v,(u 11).v,(u 12).v,undef],[]⟩) (fun u _=>by kernel_rfl) (by kernel_rfl) _ rfl fun u3 w3 D=>?_
 obtain ⟨x7,x8,E3_4,e_,F_x8⟩:=(D.r (S:=Amb S W) (.tail _ (.tail _ (.tail _ (.tail _ (.tail _ (.tail _ (.tail _ (.tail _ (.head _))))))))) (fun k hk=>hk.elim (fun h=>h.1.1) (fun h=>.inr (Nat.le_trans nW h))))
 obtain rfl:x7 = _:=e_
 replace F_x8:(MagP x.num.natAbs).p (Amb S W) x8 w3:=F_x8
 obtain ⟨x9,x10,E3_7,e_,F_x10⟩:=(D.r (S:=Amb S W) (.tail _ (.tail _ (.tail _ (.tail _ (.tail _ (.head _)))))) (fun k hk=>hk.elim (fun h=>h.1.1) (fun h=>.inr (Nat.le_trans nW h))))
 obtain rfl:x9 = _:=e_
 replace F_x10:(MagP (x.den:Int).natAbs).p (Amb S W) x10 w3:=F_x10
 have E3_12:(u3 12).v = (.pointer (some ⟨z,2,none⟩)):=(D.f (.head _))
 replace B_z:w3.heap[z]? = _:=(D.f (.tail _ (.tail _ (.head _))))
 simp only [Value.cells,E3_4,E3_7] at B_z
 replace bel:=bel.trans ⟨D.base.grow.os,D.base.grow.tape,D.base.grow.output,D.base.grow.size,fun k hk hz=>D.base.block k hk (fun x_ i_ hx_=>by have h_:=List.mem_of_getElem? hx_; simp at h_; exact hz h_.1)⟩
 replace nW:=Nat.le_trans nW D.base.grow.size
 clear D
 have o1_:=VP1.mag F_x10
 refine wpT_skip rfl (ex_store_part 98 _ _ rfl (by exact E3_12) (by exact E3_7) B_z (by kernel_rfl) (by simp) (by simp [o1_] <;> rfl) (vs:=#[.bool (decide (x.num < 0)),x8,.bool (decide ((x.den:Int) < 0)),x10]) (by simp)) ?_
 have ow11:=setRow_only w3 z #[.bool (decide (x.num < 0)),x8,.bool (decide ((x.den:Int) < 0)),x10]
 have sw11:Soft w3 z ∨ Local w3 z:=.inl ⟨_,_,B_z,rfl⟩
 replace B_z:=setRow_at (c' := #[.bool (decide (x.num < 0)),x8,.bool (decide ((x.den:Int) < 0)),x10]) B_z
 replace F_x8:=(MagP x.num.natAbs).grow (S:=fun _=>False) (Rgn.Only.growF ow11 sw11) F_x8
 replace F_x10:=(MagP ((x.den:Int).natAbs)).grow (S:=fun _=>False) (Rgn.Only.growF ow11 sw11) F_x10
 replace bel:=bel.trans ow11
 replace nW:=Nat.le_trans nW ow11.size
 obtain ⟨w11,hw11⟩:∃ x_,x_ = w3.setRow z #[.bool (decide (x.num < 0)),x8,.bool (decide ((x.den:Int) < 0)),x10]:=⟨_,rfl⟩
 rw [← hw11] at B_z
 rw [← hw11] at F_x8
 rw [← hw11] at F_x10
 rw [← hw11] at bel
 rw [← hw11] at nW
 rw [← hw11]
 clear hw11
 refine wpList_nil ?_
 show _
 refine hK6 _ _ ?_
 refine wp_seq_k fun K12 hK12=>?_
 refine go2_seq 2 rfl (Amb S W) [] [] (Olds.nil _) (by kernel_rfl) ?_
 refine Go2.eq (i:=0) rfl (G0 rfl) (V:=.pointer (some ⟨z,0,none⟩)) (by intro u μ ρ H; have e0:=H.s0 0 (by kernel_rfl); clear H; go_simp) ?_
 refine Go2.eq (i:=1) rfl (G0 rfl) (V:=.pointer (some ⟨z,0,none⟩)) (by intro u μ ρ H; have e28:=H.e 28 0 (by kernel_rfl) (H.f (.head _) (by kernel_rfl)); clear H; go_simp) ?_
 refine Go2.done (fun u=>⟨#[.pointer (some ⟨z,0,none⟩),.pointer (some ⟨b1,0,none⟩),undef,undef,(u 1).v,(u2 9).v,(u2 10).v,(u2 0).v,(u2 1).v,(u2 2).v,(u2 3).v,(u2 4).v,(u2 5).v,(u2 6).v,(u2 7).v,(u2 8).v,(u3 0).v,(u3 1).v,(u3 2).v,(u3 3).v,(u3 4).v,(u3 5).v,(u3 6).v,(u3 7).v,(u3 8).v,(u3 9).v,(u3 11).v,(u3 12).v,(u 0).v],[]⟩) (fun u=>by kernel_rfl) (by kernel_rfl) fun u4 w4 D=>?_
 have E4_1:(u4 1).v = (.pointer (some ⟨z,0,none⟩)):=(D.f (.head _))
 replace B_z:=D.base.keep0 B_z
 replace F_x8:=(MagP x.num.natAbs).grow D.base.growAll F_x8
 replace F_x10:=(MagP ((x.den:Int).natAbs)).grow D.base.growAll F_x10
 replace bel:=D.base.only0 bel
 replace nW:=Nat.le_trans nW D.base.grow.size
 clear D
 refine hK12 _ _ ?_
 refine wp_ret ?_
 exact ret_ok rfl (by exact results_tmp' rfl (by exact E4_1)) ⟨rfl,RatF.of rfl B_z F_x8 F_x10,bel⟩
set_option maxRecDepth 100000 in
set_option maxHeartbeats 1000000 in
theorem qNeg {S:Nat → Prop} {W:World} {z:Nat} {v1:Value} (x:Rat) (hz:RatBlk W z) (t1:(RatP x).p S v1 W) (p0:ht x ≤ 68719476736) :
  Calls Tryz.prog 169 #[.pointer (some ⟨z,0,none⟩),v1] W (RetOwn z (RatP (-x)) W):=by
 have hS:=qSetF x hz t1 p0
 have n0:=hi_num x
 have hT:=fun (w1:World) (h:(RatF x).p (· = z) (.pointer (some ⟨z,0,none⟩)) w1)=>RatF.at h
 have hN:=fun (w1:World) (cc dd:Value) (hh:HalfBlk cc dd w1 z) (h:(RatF x).p (· = z) (.pointer (some ⟨z,0,none⟩)) w1)=>bNegR hh x.num (RatP.num (RatF.p h)) (by omega)
 go_enter Tryz.func169,Tryz.ntmps169
 go_wp2_with fail
 go_call hS as _ w1 ⟨rfl,hf,ho⟩
 obtain ⟨u1,u2,hB,hm1,hm2⟩:=hT w1 hf
 have hB' : w1.drew.heap[z]? = _:=hB
 have hN:=hN w1.drew _ _ (HalfBlk.of hB') hf
 have hs:Soft w1.drew z ∨ Local w1.drew z:=.inl ⟨_,_,hB', rfl⟩
 have hm3:Mag w1.drew u2 x.den:=hm2
 clear hT hS t1 hz
 go_wp2_with fail
 go_still_tail 6,(by kernel_rfl)
 go_wp2_with fail
 go_call hN as _ w2 ⟨rfl,hf2,ho2⟩
 go_wp2_with fail
 refine ret_ok rfl (by exact results_tmp' rfl rfl) ⟨rfl,?_,(ho.trans (show Only z w1 w1.drew from ⟨rfl,rfl,rfl,Nat.le_refl _,fun _ _ _=>rfl⟩)).trans ho2⟩
 obtain ⟨v', g1,g2⟩:=HalfO.at hf2
 have g3:=(MagP x.den).grow (S:=fun _=>False) (ho2.growF hs) hm3
 refine ⟨z,rfl,rfl,.inl ⟨v', u2,?_,?_,?_⟩⟩
 ·rw [Rat.neg_num]; exact g1
 ·rw [Rat.neg_num]; exact g2
 ·rw [Rat.neg_den]; exact g3
@[go_sem] theorem sq_0 (u:Nat → Got) (a:Nat) (l:List Value):sq u a 0 l = l:=rfl
@[go_sem] theorem sq_1 (u:Nat → Got) (a n:Nat) (l:List Value):sq u a (n + 1) l = (u a).v :: sq u (a + 1) n l:=rfl
theorem ex_callv {P:Program} {ρ:Operand → Value} {o:Oper} {w:World} {f:FuncId} {c:Operand} {xs:Array Operand} {ats:Array TypeId} {args:Array Value} (ho:o.op = .call { callee:=.value c,args:=xs,argTypes:=ats }) (hf:ρ c = .func (.func f) #[] #[])
  {fn:Func} (hfn:P.funcs[f]? = some fn) (hname:(fn.name == "runtime.NumGoroutine") = false) (hb:fn.body.isNone = false) (hx:xs.map ρ = args):(execOp ρ o).run P w = .ok (.enter f args) w:=by
 subst hx
 have h1:execOp ρ o = callFunc f (#[] ++ xs.map ρ ++ #[]):=by
  unfold execOp
  simp only [ho,resolve,hf,Deferred.ofValue]
  rfl
 rw [h1]
 simp only [callFunc,Sem.run_bind]
 simp only [program,Sem.run,hfn,Result.andThen_ok]
 rw [if_neg (by simp [hname]),if_neg (by simp [hb])]
 simp [Sem.run,pure]
theorem ex_conv {P:Program} {ρ:Operand → Value} {o:Oper} {w w' : World} {a b:TypeId} {x:Operand} {v v' : Value} (ho:o.op = .convert a b x) (hx:ρ x = v) (h:(convert a b v).run P w = .ok v' w'):(execOp ρ o).run P w = .ok (.value v') w' := by
 subst hx
 unfold execOp
 simp only [ho]
 simp [h,Result.andThen]
theorem results_mix {P:Program} {fn:Func} {p q ty:Nat} {tmps:Array Value} {w:World} {g:Nat} {v:Value} (hf:fn.results = #[.cell p ty,.tmp q]) (hp:tmps.getD p undef = .pointer (some ⟨g,0,none⟩)) {t:TypeId} {cs:Array Value} {fr:Nat × Nat} (hg:w.heap[g]? = some (.cells cs t fr))
  {d:TypeDesc} (hu:P.underlying ty = some d) (hd:(match d with | .struct _ | .array _ _=>true | _=>false) = true) (hi:(P.info? ty).map (·.size) = some cs.size) (h:tmps.getD q undef = v):(results fn tmps).run P w = .ok (.tuple #[.agg cs,v]) w:=by
 have hp:tmps[p]?.getD undef = .pointer (some ⟨g,0,none⟩):=by simpa using hp
 have h:tmps[q]?.getD undef = v:=by simpa using h
 have hl:=run_loadVar_row (P:=P) w g t ty cs fr d hg hu hd hi
 simp only [results,hf]
 simp [hp,hl,h,asAddr]
theorem Rgn.SP.bytVal {B0:Nat} {R0:Nat → Prop} {olds:List (Nat × Nat)} {i:Nat} {near:List Nat} {n a b:Nat} {u:Nat → Got} {w:World} {v:Value} (h:(BytP n).p Any v w) :
  (SP.val (B0:=B0) (R0:=R0) (olds:=olds) i near (BytP n)).p (upd u i ⟨v,a,b⟩) w:=by
 show Byts w (upd u i _ i).v (bytesOf n)
 rw [upd_same]; exact h
theorem wpList_as {P:Program} {ops:Array Oper} {Q:Exit → Act → World → Prop} {rest:List Oper} {w:World} {a:Act} (a' : Act) (h:a = a') (H:wpList P ops Q rest a' w):wpList P ops Q rest a w:=h ▸ H
theorem num_n {x:Int} (h:x < 0):-((x.natAbs:Nat):Int) = x:=by omega
theorem num_p {x:Int} (h:¬ x < 0):((x.natAbs:Nat):Int) = x:=by omega
theorem sign_lt (x:Int):decide (x.sign < 0) = decide (x < 0):=by
 have:=sign3 x
 by_cases h:x < 0
 ·rw [decide_eq_true h,decide_eq_true]; omega
 ·rw [decide_eq_false h,decide_eq_false]; omega
theorem back_w (x:Int):Value.agg #[.bool (decide (x.sign < 0)),.string (bS x.natAbs)] = .agg #[.bool (decide (x < 0)),.string (bS x.natAbs)]:=by rw [sign_lt]
theorem fr_self (x:Rat):Rat.divInt x.num (x.den:Int) = x:=Rat.num_divInt_den x
def fcut (q:Rat):RF:=if fits (rf q) then rf q else ⟨⟨false,⟨#[]⟩⟩,⟨false,⟨#[]⟩⟩⟩
def ferr (q:Rat):Int:=if fits (rf q) then 0 else 4
theorem fcut_1 {q:Rat} (h:decide (1024 < (((bS q.num.natAbs).size:Nat):Int)) = false) (h' : decide (1024 < (((bS (q.den:Int).natAbs).size:Nat):Int)) = false):fits (rf q) = true:=by
 have h:=of_decide_eq_false h
 have h' := of_decide_eq_false h'
 unfold fits
 rw [Bool.and_eq_true,decide_eq_true_eq,decide_eq_true_eq]
 show (bS q.num.natAbs).size ≤ 1024 ∧ (bS (q.den:Int).natAbs).size ≤ 1024
 omega
theorem fcut_2 {q:Rat} (h:decide (1024 < (((bS q.num.natAbs).size:Nat):Int)) = true):fits (rf q) = false:=by
 have h:=of_decide_eq_true h
 unfold fits
 rw [Bool.and_eq_false_iff,decide_eq_false_iff_not]
 refine .inl ?_
 show ¬ (bS q.num.natAbs).size ≤ 1024
 omega
theorem fcut_3 {q:Rat} (h:decide (1024 < (((bS (q.den:Int).natAbs).size:Nat):Int)) = true):fits (rf q) = false:=by
 have h:=of_decide_eq_true h
 unfold fits
 rw [Bool.and_eq_false_iff,decide_eq_false_iff_not,decide_eq_false_iff_not]
 refine .inr ?_
 show ¬ (bS (q.den:Int).natAbs).size ≤ 1024
 omega
theorem fcut_no {q:Rat} (h:fits (rf q) = false):Value.tuple #[.agg #[.bool false,.string ⟨#[]⟩,.bool false,.string ⟨#[]⟩],.int .i64 4] = .tuple #[.agg #[.bool (fcut q).a.n,.string (fcut q).a.s,.bool (fcut q).b.n,.string (fcut q).b.s],.int .i64 (ferr q)]:=by
 unfold fcut ferr; rw [if_neg (by rw [h]; decide),if_neg (by rw [h]; decide)]
theorem fcut_yes {q:Rat} (h:fits (rf q) = true):Value.tuple #[.agg #[.bool (decide (q.num < 0)),.string (bS q.num.natAbs),.bool (decide ((q.den:Int) < 0)),.string (bS (q.den:Int).natAbs)],.int .i64 0] = .tuple #[.agg #[.bool (fcut q).a.n,.string (fcut q).a.s,.bool (fcut q).b.n,.string (fcut q).b.s],.int .i64 (ferr q)]:=by
 unfold fcut ferr; rw [if_pos h,if_pos h]
theorem cx_eq {a b:Cx} (h:a = b) {S:Nat → Prop} {v:Value} {w:World} (F:(CxP a).p S v w):(CxP b).p S v w:=h ▸ F
theorem cx_over (x y:Cx):(x.mul y.conj).scale y.norm⁻¹ = x.div y:=rfl
end Go.Proofs.YtllohoibifcmdaaGreat
namespace Go.Proofs.YtllohoibifcmdaaGreat
open Go.RowKit Rgn
set_option maxHeartbeats 4000000
set_option maxRecDepth 100000
variable {S:Nat → Prop} {W:World}
theorem xMul {v0:Value} {v1:Value} (x:Cx) (y:Cx) (t0:(CxP x).p S v0 W) (t1:(CxP y).p S v1 W) (p0:ht x.re + ht x.im + ht y.re + ht y.im ≤ 17179869184) :
  Calls Tryz.prog 67 #[v0,v1] W (Ret (CxP (x.mul y)) S W):=by
 obtain ⟨b1,b2,rfl,L1,L2,F1,F2⟩:=CxP.elim t0
 replace L1:Amb S W b1:=.inl L1
 replace L2:Amb S W b2:=.inl L2
 obtain ⟨b3,b4,rfl,L3,L4,F3,F4⟩:=CxP.elim t1
 replace L3:Amb S W b3:=.inl L3
 replace L4:Amb S W b4:=.inl L4
 have h1:=ht_mul x.re y.re
 have h2:=ht_mul x.im y.im
 have h3:=ht_mul x.re y.im
 have h4:=ht_mul x.im y.re
 have bel:=b0 W
 go_enter Tryz.func67,Tryz.ntmps67
 refine gs 3 (Amb S W) fun _ K5=>?_
 refine .bx rfl (fun H=>H.v 0 (.agg #[pt b1,pt b2])) ?_
 refine .bx rfl (fun H=>H.v 1 (.agg #[pt b3,pt b4])) ?_
 refine .al rfl (#[.pointer none,.pointer none]) ?_
 refine .dk (fun u=>.agg #[pt b1,pt b2]::.agg #[pt b3,pt b4]::sq u 0 3 (us 37)) K5 bel fun u1 w1 D bel=>?_
 obtain ⟨b6,E1_0,A6,B6⟩:=D.nw 0
 obtain ⟨b7,E1_1,A7,B7⟩:=D.nw 1
 obtain ⟨b8,E1_2,A8,B8⟩:=D.nw 2
 have N1_8:=D.n1 2 (RatP.lt F1) E1_2
 have N2_8:=D.n1 2 (RatP.lt F2) E1_2
 have N3_8:=D.n1 2 (RatP.lt F3) E1_2
 have N4_8:=D.n1 2 (RatP.lt F4) E1_2
 have N6_8:=D.n2 0 2 E1_0 E1_2
 have N7_8:=D.n2 1 2 E1_1 E1_2
 replace F1:=D.o L1 F1
 replace F2:=D.o L2 F2
 replace F3:=D.o L3 F3
 replace F4:=D.o L4 F4
 clear D
 refine gd 14 (Amb S W) fun _ K9=>?_
 refine .al rfl zQ ?_
 refine .fz rfl 2 0 E1_0 ?_
 refine .lc rfl 1 B6 ?_ (V:=pt b1)
 refine .fz rfl 3 0 E1_1 ?_
 refine .lc rfl 3 B7 ?_ (V:=pt b3)
 refine .cO rfl 0 Tryz.func124 (fun H h0 hz=>⟨_,ar3 (H.p 9 0 h0) (H.g 11 2) (H.g 13 4),qMul _ _ (RatBlk.of hz) (VP.any _ (H.was _ [] (VP.at F1 L1))) (VP.any _ (H.was _ [] (VP.at F3 L3))) (by omega)⟩) ?_
 refine .al rfl zQ ?_
 refine .fz rfl 2 1 E1_0 ?_
 refine .lc rfl 7 B6 ?_ (V:=pt b2)
 refine .fz rfl 3 1 E1_1 ?_
 refine .lc rfl 9 B7 ?_ (V:=pt b4)
 refine .cO rfl 6 Tryz.func124 (fun H h0 hz=>⟨_,ar3 (H.p 15 6 h0) (H.g 17 8) (H.g 19 10),qMul _ _ (RatBlk.of hz) (VP.any _ (H.was _ [] (VP.at F2 L2))) (VP.any _ (H.was _ [] (VP.at F4 L4))) (by omega)⟩) ?_
 refine .mo rfl 5 ?_
 refine .mo rfl 11 ?_
 refine .dk (fun u=>.agg #[pt b1,pt b2]::.agg #[pt b3,pt b4]::sq u1 0 3 (u 12::u 13::U::U::sq u 0 12 (us 21))) K9 bel fun u2 w2 D bel=>?_
 obtain ⟨b10,E2_12,A10,F10⟩:=D.ow 12
 obtain ⟨b11,E2_13,A11,F11⟩:=D.ow 13
 have N6_10:=D.n1 0 (lt_of B6) ((D.a 12 rfl).1.symm.trans E2_12)
 have N7_10:=D.n1 0 (lt_of B7) ((D.a 12 rfl).1.symm.trans E2_12)
 have N8_10:=D.n1 0 (lt_of B8) ((D.a 12 rfl).1.symm.trans E2_12)
 have N1_10:=D.n1 0 (RatP.lt F1) ((D.a 12 rfl).1.symm.trans E2_12)
 have N2_10:=D.n1 0 (RatP.lt F2) ((D.a 12 rfl).1.symm.trans E2_12)
 have N3_10:=D.n1 0 (RatP.lt F3) ((D.a 12 rfl).1.symm.trans E2_12)
 have N4_10:=D.n1 0 (RatP.lt F4) ((D.a 12 rfl).1.symm.trans E2_12)
 have N8_11:=D.n1 6 (lt_of B8) ((D.a 13 rfl).1.symm.trans E2_13)
 have N10_11:=D.n2 0 6 ((D.a 12 rfl).1.symm.trans E2_12) ((D.a 13 rfl).1.symm.trans E2_13)
 replace B6:=D.k B6
 replace B7:=D.k B7
 replace B8:=D.k B8
 replace F1:=D.o L1 F1
 replace F2:=D.o L2 F2
 replace F3:=D.o L3 F3
 replace F4:=D.o L4 F4
 have L10:Amb S W b10:=.inr A10
 have L11:Amb S W b11:=.inr A11
 clear D
 refine gd 14 (Amb S W) fun _ K12=>?_
 refine .al rfl zQ ?_
 refine .fz rfl 2 0 E1_0 ?_
 refine .lc rfl 1 B6 ?_ (V:=pt b1)
 refine .fz rfl 3 1 E1_1 ?_
 refine .lc rfl 3 B7 ?_ (V:=pt b4)
 refine .cO rfl 0 Tryz.func124 (fun H h0 hz=>⟨_,ar3 (H.p 21 0 h0) (H.g 23 2) (H.g 25 4),qMul _ _ (RatBlk.of hz) (VP.any _ (H.was _ [] (VP.at F1 L1))) (VP.any _ (H.was _ [] (VP.at F4 L4))) (by omega)⟩) ?_
 refine .al rfl zQ ?_
 refine .fz rfl 2 1 E1_0 ?_
 refine .lc rfl 7 B6 ?_ (V:=pt b2)
 refine .fz rfl 3 0 E1_1 ?_
 refine .lc rfl 9 B7 ?_ (V:=pt b3)
 refine .cO rfl 6 Tryz.func124 (fun H h0 hz=>⟨_,ar3 (H.p 27 6 h0) (H.g 29 8) (H.g 31 10),qMul _ _ (RatBlk.of hz) (VP.any _ (H.was _ [] (VP.at F2 L2))) (VP.any _ (H.was _ [] (VP.at F3 L3))) (by omega)⟩) ?_
 refine .mo rfl 5 ?_
 refine .mo rfl 11 ?_
 refine .dk (fun u=>.agg #[pt b1,pt b2]::.agg #[pt b3,pt b4]::sq u1 0 3 (u2 12::u2 13::u 12::u 13::sq u2 0 12 (sq u 0 12 (us 9)))) K12 bel fun u3 w3 D bel=>?_
 obtain ⟨b13,E3_12,A13,F13⟩:=D.ow 12
 obtain ⟨b14,E3_13,A14,F14⟩:=D.ow 13
 have N6_13:=D.n1 0 (lt_of B6) ((D.a 12 rfl).1.symm.trans E3_12)
 have N7_13:=D.n1 0 (lt_of B7) ((D.a 12 rfl).1.symm.trans E3_12)
 have N8_13:=D.n1 0 (lt_of B8) ((D.a 12 rfl).1.symm.trans E3_12)
 have N1_13:=D.n1 0 (RatP.lt F1) ((D.a 12 rfl).1.symm.trans E3_12)
 have N2_13:=D.n1 0 (RatP.lt F2) ((D.a 12 rfl).1.symm.trans E3_12)
 have N3_13:=D.n1 0 (RatP.lt F3) ((D.a 12 rfl).1.symm.trans E3_12)
 have N4_13:=D.n1 0 (RatP.lt F4) ((D.a 12 rfl).1.symm.trans E3_12)
 have N10_13:=D.n1 0 (RatP.lt F10) ((D.a 12 rfl).1.symm.trans E3_12)
 have N11_13:=D.n1 0 (RatP.lt F11) ((D.a 12 rfl).1.symm.trans E3_12)
 have N8_14:=D.n1 6 (lt_of B8) ((D.a 13 rfl).1.symm.trans E3_13)
 have N10_14:=D.n1 6 (RatP.lt F10) ((D.a 13 rfl).1.symm.trans E3_13)
 have N13_14:=D.n2 0 6 ((D.a 12 rfl).1.symm.trans E3_12) ((D.a 13 rfl).1.symm.trans E3_13)
 replace B8:=D.k B8
 replace F10:=D.o L10 F10
 replace F11:=D.o L11 F11
 have L13:Amb S W b13:=.inr A13
 have L14:Amb S W b14:=.inr A14
 clear D
 refine wp_seq_k fun _ K15=>?_
 refine go2_seqT 3 7 rfl (Amb S W) [] [] (Olds.nil _) (by kernel_rfl) ?_
 refine .mz rfl 5 E2_12 ?_
 refine .mz rfl 5 E2_12 ?_
 refine .mz rfl 6 E2_13 ?_
 refine .dT (fun u=>.agg #[pt b1,pt b2]::.agg #[pt b3,pt b4]::sq u1 0 3 (u2 12::u2 13::u3 12::u3 13::sq u2 0 12 (sq u3 0 12 (sq u 0 9 [])))) bel.size _ rfl fun u4 w4 D=>?_
 have E4_0:=D.q 0
 have E4_1:=D.q 1
 have E4_2:=D.q 2
 replace B8:=D.k B8
 replace F10:=D.o L10 F10
 replace F11:=D.o L11 F11
 replace F13:=D.o L13 F13
 replace F14:=D.o L14 F14
 replace bel:=D.d.base.bel0 bel bel.size
 clear D
 refine wpT_callO (args:=#[pt b10,pt b10,pt b11]) rfl (ex_call rfl rfl Tryz.func125 (by kernel_rfl) (by kernel_rfl) (by simp only [List.map_toArray,List.map_cons,List.map_nil]; show #[(u4 0).v,(u4 1).v,(u4 2).v] = #[pt b10,pt b10,pt b11]; rw [E4_0,E4_1,E4_2])) (qSub (z:=b10) (x:=x.re * y.re) (y:=x.im * y.im) (RatP.blk F10) (VP.any _ F10) (VP.any _ F11) (by omega)) fun w16 fw16 ow16=>?_
 have sw16:Soft w4 b10 ∨ Local w4 b10:=.inl (RatP.soft F10)
 replace B8:=ow16.keep B8 N8_10
 replace F11:=ow16.one sw16 _ (Ne.symm N10_11) F11
 replace F13:=ow16.one sw16 _ (Ne.symm N10_13) F13
 replace F14:=ow16.one sw16 _ (Ne.symm N10_14) F14
 have F10:=fw16
 have L10:Amb S W b10:=.inr A10
 replace bel:=bel.trans (only_below' ow16 A10 bel.size)
 refine wpList_as (fr (.agg #[pt b1,pt b2]::.agg #[pt b3,pt b4]::sq u1 0 3 (u2 12::u2 13::u3 12::u3 13::sq u2 0 12 (sq u3 0 12 (sq u4 0 3 (.pointer (some ⟨b10,0,none⟩)::sq u4 4 5 [])))))) (by kernel_rfl) ?_
 refine wpT_val rfl (ex_move rfl) ?_
 refine wpList_as (fr (.agg #[pt b1,pt b2]::.agg #[pt b3,pt b4]::sq u1 0 3 (u2 12::u2 13::u3 12::u3 13::sq u2 0 12 (sq u3 0 12 (sq u4 0 3 (.pointer (some ⟨b10,0,none⟩)::u3 12::sq u4 5 4 [])))))) (by kernel_rfl) ?_
 refine wpT_val rfl (ex_move rfl) ?_
 refine wpList_as (fr (.agg #[pt b1,pt b2]::.agg #[pt b3,pt b4]::sq u1 0 3 (u2 12::u2 13::u3 12::u3 13::sq u2 0 12 (sq u3 0 12 (sq u4 0 3 (.pointer (some ⟨b10,0,none⟩)::u3 12::u3 12::sq u4 6 3 [])))))) (by kernel_rfl) ?_
 refine wpT_val rfl (ex_move rfl) ?_
 refine wpList_as (fr (.agg #[pt b1,pt b2]::.agg #[pt b3,pt b4]::sq u1 0 3 (u2 12::u2 13::u3 12::u3 13::sq u2 0 12 (sq u3 0 12 (sq u4 0 3 (.pointer (some ⟨b10,0,none⟩)::u3 12::u3 12::u3 13::u4 7::u4 8::[])))))) (by kernel_rfl) ?_
 refine wpT_callO (args:=#[pt b13,pt b13,pt b14]) rfl (ex_call rfl rfl Tryz.func94 (by kernel_rfl) (by kernel_rfl) (by simp only [List.map_toArray,List.map_cons,List.map_nil]; show #[(u3 12).v,(u3 12).v,(u3 13).v] = #[pt b13,pt b13,pt b14]; rw [E3_12,E3_13])) (qAdd (z:=b13) (x:=x.re * y.im) (y:=x.im * y.re) (RatP.blk F13) (VP.any _ F13) (VP.any _ F14) (by omega)) fun w17 fw17 ow17=>?_
 have sw17:Soft w16 b13 ∨ Local w16 b13:=.inl (RatP.soft F13)
 replace B8:=ow17.keep B8 N8_13
 replace F10:=ow17.one sw17 _ N10_13 F10
 replace F11:=ow17.one sw17 _ N11_13 F11
 replace F14:=ow17.one sw17 _ (Ne.symm N13_14) F14
 have F13:=fw17
 have L13:Amb S W b13:=.inr A13
 replace bel:=bel.trans (only_below' ow17 A13 bel.size)
 refine wpList_as (fr (.agg #[pt b1,pt b2]::.agg #[pt b3,pt b4]::sq u1 0 3 (u2 12::u2 13::u3 12::u3 13::sq u2 0 12 (sq u3 0 12 (sq u4 0 3 (.pointer (some ⟨b10,0,none⟩)::u3 12::u3 12::u3 13::.pointer (some ⟨b13,0,none⟩)::u4 8::[])))))) (by kernel_rfl) ?_
 refine wpT_val (v:=(.agg #[pt b10,pt b13])) rfl (by go_simp) ?_
 refine wpList_as (fr (.agg #[pt b1,pt b2]::.agg #[pt b3,pt b4]::sq u1 0 3 (u2 12::u2 13::u3 12::u3 13::sq u2 0 12 (sq u3 0 12 (sq u4 0 3 (.pointer (some ⟨b10,0,none⟩)::u3 12::u3 12::u3 13::.pointer (some ⟨b13,0,none⟩)::.agg #[pt b10,pt b13]::[])))))) (by kernel_rfl) ?_
 refine wpT_skip rfl (ex_store_row (cells:=#[pt b10,pt b13]) 81 _ _ rfl (by exact E1_2) rfl B8 (by kernel_rfl) rfl (by first | rfl | simp [Value.oneCell'])) ?_
 have ow18:=setRow_only w17 b8 #[pt b10,pt b13]
 have B0_w18:=B8
 replace B8:=setRow_at (c' := #[pt b10,pt b13]) B8
 replace F10:=ow18.one (.inr ⟨_,_,_,B0_w18,rfl⟩) _ (Ne.symm N8_10) F10
 replace F11:=ow18.one (.inr ⟨_,_,_,B0_w18,rfl⟩) _ (Ne.symm N8_11) F11
 replace F13:=ow18.one (.inr ⟨_,_,_,B0_w18,rfl⟩) _ (Ne.symm N8_13) F13
 replace F14:=ow18.one (.inr ⟨_,_,_,B0_w18,rfl⟩) _ (Ne.symm N8_14) F14
 replace bel:=bel.trans (only_below' ow18 A8 bel.size)
 obtain ⟨w18,hw18⟩:∃ x_,x_ = w17.setRow b8 #[pt b10,pt b13]:=⟨_,rfl⟩
 rw [← hw18] at B8
 rw [← hw18] at F10
 rw [← hw18] at F11
 rw [← hw18] at F13
 rw [← hw18] at F14
 rw [← hw18] at bel
 rw [← hw18]
 clear hw18
 refine wpList_as (fr (.agg #[pt b1,pt b2]::.agg #[pt b3,pt b4]::sq u1 0 3 (u2 12::u2 13::u3 12::u3 13::sq u2 0 12 (sq u3 0 12 (sq u4 0 3 (.pointer (some ⟨b10,0,none⟩)::u3 12::u3 12::u3 13::.pointer (some ⟨b13,0,none⟩)::.agg #[pt b10,pt b13]::[])))))) (by kernel_rfl) ?_
 refine wpList_nil ?_
 show _
 refine K15 _ _ ?_
 refine wp_ret ?_
 refine ret_ok rfl (by exact results_row rfl (by exact E1_2) B8 Tryz.underlying81 rfl (by kernel_rfl)) ⟨_,rfl,?_,bel⟩
 exact (CxP.mk (VP.at F10 L10) (VP.at F13 L13))
theorem xConj {v0:Value} (x:Cx) (t0:(CxP x).p S v0 W) (p0:ht x.re + ht x.im ≤ 8589934592) :
  Calls Tryz.prog 110 #[v0] W (Ret (CxP x.conj) S W):=by
 obtain ⟨b1,b2,rfl,L1,L2,F1,F2⟩:=CxP.elim t0
 replace L1:Amb S W b1:=.inl L1
 replace L2:Amb S W b2:=.inl L2
 have bel:=b0 W
 go_enter Tryz.func110,Tryz.ntmps110
 refine gs 2 (Amb S W) fun _ K3=>?_
 refine .bx rfl (fun H=>H.v 0 (.agg #[pt b1,pt b2])) ?_
 refine .al rfl (#[.pointer none,.pointer none]) ?_
 refine .dk (fun u=>.agg #[pt b1,pt b2]::u 0::u 1::us 7) K3 bel fun u1 w1 D bel=>?_
 obtain ⟨b4,E1_0,A4,B4⟩:=D.nw 0
 obtain ⟨b5,E1_1,A5,B5⟩:=D.nw 1
 have N1_5:=D.n1 1 (RatP.lt F1) E1_1
 have N2_5:=D.n1 1 (RatP.lt F2) E1_1
 have N4_5:=D.n2 0 1 E1_0 E1_1
 replace F1:=D.o L1 F1
 replace F2:=D.o L2 F2
 clear D
 refine gd1 8 (Amb S W) 7 B5 fun _ K6=>?_
 refine .fz rfl 1 0 E1_0 ?_
 refine .e rfl (V:=pt b1) (fun H=>x_ldc (H.g 3 0) (H.b1 B4 (Ne.symm N4_5))) ?_
 refine .al rfl zQ ?_
 refine .fz rfl 1 1 E1_0 ?_
 refine .e rfl (V:=pt b2) (fun H=>x_ldc (H.g 6 3) (H.b1 B4 (Ne.symm N4_5))) ?_
 refine .cO rfl 2 Tryz.func169 (fun H h0 hz=>⟨_,ar2 (H.p 5 2 h0) (H.g 7 4),qNeg (x:=_) (RatBlk.of hz) (VP.any _ (H.was _ [] (VP.at F2 L2))) (by omega)⟩) ?_
 refine Go2.fn (i:=6) rfl (G0 rfl) (SP.fnL 6 [5] (fun u=>.agg #[pt b1,(u 5).v]) (by intro u u' h; simp [h 5 (by simp)])) (fun u μ ρ H=>⟨_,by have e4:=H.g 4 1; have e8:=H.r 8 5; obtain ⟨x5,h5⟩:=RatP.isPtr (Own.any (H.a 5 rfl)); clear H; go_simp,SP.fnL_upd (by decide)⟩) ?_
 refine Go2.storeOld (i:=7) 0 b5 rfl rfl rfl ⟨_,_,_,B5,rfl⟩ (SP.old 0 b5 [5] (fun u=>#[pt b1,(u 5).v]) 81 (by intro u u' h; simp [h 5 (by simp)]) (lt_of B5) (by intro y k hy; match y,hy with | 0,hy=>rfl)) (fun u μ ρ H=>?_) ?_
 · have e2:=H.z 2 E1_1; have e9:=H.e 9 6 (by kernel_rfl) (H.a 6 rfl); have o5:=VP1.rat (Own.any (H.a 5 rfl)); have hb:=H.blkOld B5 0 7 rfl (.inl rfl)
   refine ⟨μ.setRow b5 #[pt b1,(u 5).v],ex_store_row 81 _ _ rfl e2 e9 hb (by kernel_rfl) rfl (by simp [o5] <;> rfl),fun g=>?_,setRow_only _ _ _⟩
   show (World.setRow _ _ _).heap[b5]? = _
   rw [setRow_at hb]; try simp [upd]
 refine .d1 (fun u=>.agg #[pt b1,pt b2]::u1 0::u1 1::sq u 0 7 []) K6 bel A5 fun u2 w2 D bel=>?_
 obtain ⟨b7,E2_5,A7,F7⟩:=D.ow 5
 have N5_7:=D.n1 2 (lt_of B5) ((D.a 5 rfl).1.symm.trans E2_5)
 replace B5:w2.heap[b5]? = _:=(D.a 7 rfl)
 simp only [Value.cells,E2_5] at B5
 replace F1:=D.o L1 F1
 have L7:Amb S W b7:=.inr A7
 clear D
 refine wp_ret ?_
 refine ret_ok rfl (by exact results_row rfl (by exact E1_1) B5 Tryz.underlying81 rfl (by kernel_rfl)) ⟨_,rfl,?_,bel⟩
 exact (CxP.mk (VP.at F1 L1) (VP.at F7 L7))
theorem xNorm {v0:Value} (x:Cx) (t0:(CxP x).p S v0 W) (p0:ht x.re + ht x.im ≤ 8589934592) :
  Calls Tryz.prog 113 #[v0] W (Ret (RatP x.norm) S W):=by
 obtain ⟨b1,b2,rfl,L1,L2,F1,F2⟩:=CxP.elim t0
 replace L1:Amb S W b1:=.inl L1
 replace L2:Amb S W b2:=.inl L2
 have h1:=ht_mul x.re x.re
 have h2:=ht_mul x.im x.im
 have bel:=b0 W
 go_enter Tryz.func113,Tryz.ntmps113
 refine gs 2 (Amb S W) fun _ K3=>?_
 refine .bx rfl (fun H=>H.v 0 (.agg #[pt b1,pt b2])) ?_
 refine .mc rfl ?_
 refine .dk (fun u=>.agg #[pt b1,pt b2]::u 0::u 1::us 18) K3 bel fun u1 w1 D bel=>?_
 obtain ⟨b4,E1_0,A4,B4⟩:=D.nw 0
 have E1_1:=D.q 1
 replace F1:=D.o L1 F1
 replace F2:=D.o L2 F2
 clear D
 refine gd 14 (Amb S W) fun _ K5=>?_
 refine .al rfl zQ ?_
 refine .fz rfl 1 0 E1_0 ?_
 refine .lc rfl 1 B4 ?_ (V:=pt b1)
 refine .fz rfl 1 0 E1_0 ?_
 refine .lc rfl 3 B4 ?_ (V:=pt b1)
 refine .cO rfl 0 Tryz.func124 (fun H h0 hz=>⟨_,ar3 (H.p 5 0 h0) (H.g 7 2) (H.g 9 4),qMul _ _ (RatBlk.of hz) (VP.any _ (H.was _ [] (VP.at F1 L1))) (VP.any _ (H.was _ [] (VP.at F1 L1))) (by omega)⟩) ?_
 refine .al rfl zQ ?_
 refine .fz rfl 1 1 E1_0 ?_
 refine .lc rfl 7 B4 ?_ (V:=pt b2)
 refine .fz rfl 1 1 E1_0 ?_
 refine .lc rfl 9 B4 ?_ (V:=pt b2)
 refine .cO rfl 6 Tryz.func124 (fun H h0 hz=>⟨_,ar3 (H.p 11 6 h0) (H.g 13 8) (H.g 15 10),qMul _ _ (RatBlk.of hz) (VP.any _ (H.was _ [] (VP.at F2 L2))) (VP.any _ (H.was _ [] (VP.at F2 L2))) (by omega)⟩) ?_
 refine .mo rfl 5 ?_
 refine .mo rfl 11 ?_
 refine .dk (fun u=>.agg #[pt b1,pt b2]::u1 0::u1 1::u 12::u 13::sq u 0 12 (us 4)) K5 bel fun u2 w2 D bel=>?_
 obtain ⟨b6,E2_12,A6,F6⟩:=D.ow 12
 obtain ⟨b7,E2_13,A7,F7⟩:=D.ow 13
 have N4_6:=D.n1 0 (lt_of B4) ((D.a 12 rfl).1.symm.trans E2_12)
 have N1_6:=D.n1 0 (RatP.lt F1) ((D.a 12 rfl).1.symm.trans E2_12)
 have N2_6:=D.n1 0 (RatP.lt F2) ((D.a 12 rfl).1.symm.trans E2_12)
 have N6_7:=D.n2 0 6 ((D.a 12 rfl).1.symm.trans E2_12) ((D.a 13 rfl).1.symm.trans E2_13)
 have L6:Amb S W b6:=.inr A6
 have L7:Amb S W b7:=.inr A7
 clear D
 refine wp_seq_k fun _ K8=>?_
 refine go2_seqT 3 2 rfl (Amb S W) [] [] (Olds.nil _) (by kernel_rfl) ?_
 refine .mz rfl 3 E2_12 ?_
 refine .mz rfl 3 E2_12 ?_
 refine .mz rfl 4 E2_13 ?_
 refine .dT (fun u=>.agg #[pt b1,pt b2]::u1 0::u 4::u2 12::u2 13::sq u2 0 12 (sq u 0 4 [])) bel.size _ rfl fun u3 w3 D=>?_
 have E3_0:=D.q 0
 have E3_1:=D.q 1
 have E3_2:=D.q 2
 replace F6:=D.o L6 F6
 replace F7:=D.o L7 F7
 replace bel:=D.d.base.bel0 bel bel.size
 clear D
 refine wpT_callO (args:=#[pt b6,pt b6,pt b7]) rfl (ex_call rfl rfl Tryz.func94 (by kernel_rfl) (by kernel_rfl) (by simp only [List.map_toArray,List.map_cons,List.map_nil]; show #[(u3 0).v,(u3 1).v,(u3 2).v] = #[pt b6,pt b6,pt b7]; rw [E3_0,E3_1,E3_2])) (qAdd (z:=b6) (x:=x.re * x.re) (y:=x.im * x.im) (RatP.blk F6) (VP.any _ F6) (VP.any _ F7) (by omega)) fun w9 fw9 ow9=>?_
 have sw9:Soft w3 b6 ∨ Local w3 b6:=.inl (RatP.soft F6)
 replace F7:=ow9.one sw9 _ (Ne.symm N6_7) F7
 have F6:=fw9
 have L6:Amb S W b6:=.inr A6
 replace bel:=bel.trans (only_below' ow9 A6 bel.size)
 refine wpList_as (fr (.agg #[pt b1,pt b2]::u1 0::u3 4::u2 12::u2 13::sq u2 0 12 (sq u3 0 3 (.pointer (some ⟨b6,0,none⟩)::[])))) (by kernel_rfl) ?_
 refine wpT_val rfl (ex_assign rfl) ?_
 refine wpList_as (fr (.agg #[pt b1,pt b2]::u1 0::.pointer (some ⟨b6,0,none⟩)::u2 12::u2 13::sq u2 0 12 (sq u3 0 3 (.pointer (some ⟨b6,0,none⟩)::[])))) (by kernel_rfl) ?_
 refine wpList_nil ?_
 show _
 refine K8 _ _ ?_
 refine wp_ret ?_
 refine ret_ok rfl (by exact results_tmp' rfl rfl) ⟨_,rfl,?_,bel⟩
 exact (VP.at F6 L6)
theorem xZero {v0:Value} (x:Cx) (t0:(CxP x).p S v0 W) :
  Calls Tryz.prog 53 #[v0] W (RetV (.bool x.zero) W):=by
 obtain ⟨b1,b2,rfl,L1,L2,F1,F2⟩:=CxP.elim t0
 replace L1:Amb S W b1:=.inl L1
 replace L2:Amb S W b2:=.inl L2
 have bel:=b0 W
 go_enter Tryz.func53,Tryz.ntmps53
 rcases Bool.eq_false_or_eq_true (x.re.num.sign == 0) with c3 | c3
 ·
  rcases Bool.eq_false_or_eq_true (x.im.num.sign == 0) with c4 | c4
  ·
   refine gs 2 (Amb S W) fun _ K5=>?_
   refine .bx rfl (fun H=>H.v 0 (.agg #[pt b1,pt b2])) ?_
   refine .mc rfl ?_
   refine .dk (fun u=>.agg #[pt b1,pt b2]::u 0::u 1::us 10) K5 bel fun u1 w1 D bel=>?_
   obtain ⟨b6,E1_0,A6,B6⟩:=D.nw 0
   have E1_1:=D.q 1
   replace F1:=D.o L1 F1
   replace F2:=D.o L2 F2
   clear D
   refine gs 11 (Amb S W) fun _ K7=>?_
   refine .fz rfl 1 0 E1_0 ?_
   refine .lc rfl 0 B6 ?_ (V:=pt b1)
   refine .cK rfl Tryz.func109 (fun H=>⟨_,ar1 (H.g 4 1),qSign _ (VP.any _ (H.was _ [] (VP.at F1 L1)))⟩) ?_
   refine .e rfl (V:=.bool true) (fun H=>x_cm (H.g 5 2) (H.c _) c3) ?_
   refine .mv rfl 3 ?_
   refine .fz rfl 1 1 E1_0 ?_ (hg:=gq 4 rfl)
   refine .lc rfl 5 B6 ?_ (V:=pt b2) (hg:=gq 4 rfl)
   refine .cK rfl Tryz.func109 (fun H=>⟨_,ar1 (H.g 9 6),qSign _ (VP.any _ (H.was _ [] (VP.at F2 L2)))⟩) ?_ (hg:=gq 4 rfl)
   refine .e rfl (V:=.bool true) (fun H=>x_cm (H.g 10 7) (H.c _) c4) ?_ (hg:=gq 4 rfl)
   refine .e rfl (fun H=>x_pkT (H.g 7 4) (H.g 11 8)) ?_
   refine .mv rfl 9 ?_
   refine .dk (fun u=>.agg #[pt b1,pt b2]::u1 0::u 10::sq u 0 10 []) K7 bel fun u2 w2 D bel=>?_
   have E2_10:=D.q 10
   clear D
   exact wp_ret (rt rfl E2_10 (zero_b c3 c4) bel)
  ·
   refine gs 2 (Amb S W) fun _ K8=>?_
   refine .bx rfl (fun H=>H.v 0 (.agg #[pt b1,pt b2])) ?_
   refine .mc rfl ?_
   refine .dk (fun u=>.agg #[pt b1,pt b2]::u 0::u 1::us 10) K8 bel fun u1 w1 D bel=>?_
   obtain ⟨b9,E1_0,A9,B9⟩:=D.nw 0
   have E1_1:=D.q 1
   replace F1:=D.o L1 F1
   replace F2:=D.o L2 F2
   clear D
   refine gs 11 (Amb S W) fun _ K10=>?_
   refine .fz rfl 1 0 E1_0 ?_
   refine .lc rfl 0 B9 ?_ (V:=pt b1)
   refine .cK rfl Tryz.func109 (fun H=>⟨_,ar1 (H.g 4 1),qSign _ (VP.any _ (H.was _ [] (VP.at F1 L1)))⟩) ?_
   refine .e rfl (V:=.bool true) (fun H=>x_cm (H.g 5 2) (H.c _) c3) ?_
   refine .mv rfl 3 ?_
   refine .fz rfl 1 1 E1_0 ?_ (hg:=gq 4 rfl)
   refine .lc rfl 5 B9 ?_ (V:=pt b2) (hg:=gq 4 rfl)
   refine .cK rfl Tryz.func109 (fun H=>⟨_,ar1 (H.g 9 6),qSign _ (VP.any _ (H.was _ [] (VP.at F2 L2)))⟩) ?_ (hg:=gq 4 rfl)
   refine .e rfl (V:=.bool false) (fun H=>x_cm (H.g 10 7) (H.c _) c4) ?_ (hg:=gq 4 rfl)
   refine .e rfl (fun H=>x_pkT (H.g 7 4) (H.g 11 8)) ?_
   refine .mv rfl 9 ?_
   refine .dk (fun u=>.agg #[pt b1,pt b2]::u1 0::u 10::sq u 0 10 []) K10 bel fun u2 w2 D bel=>?_
   have E2_10:=D.q 10
   clear D
   exact wp_ret (rt rfl E2_10 (zero_b c3 c4) bel)
 ·
  rcases Bool.eq_false_or_eq_true (x.im.num.sign == 0) with c11 | c11
  ·
   refine gs 2 (Amb S W) fun _ K12=>?_
   refine .bx rfl (fun H=>H.v 0 (.agg #[pt b1,pt b2])) ?_
   refine .mc rfl ?_
   refine .dk (fun u=>.agg #[pt b1,pt b2]::u 0::u 1::us 10) K12 bel fun u1 w1 D bel=>?_
   obtain ⟨b13,E1_0,A13,B13⟩:=D.nw 0
   have E1_1:=D.q 1
   replace F1:=D.o L1 F1
   replace F2:=D.o L2 F2
   clear D
   refine gs 11 (Amb S W) fun _ K14=>?_
   refine .fz rfl 1 0 E1_0 ?_
   refine .lc rfl 0 B13 ?_ (V:=pt b1)
   refine .cK rfl Tryz.func109 (fun H=>⟨_,ar1 (H.g 4 1),qSign _ (VP.any _ (H.was _ [] (VP.at F1 L1)))⟩) ?_
   refine .e rfl (V:=.bool false) (fun H=>x_cm (H.g 5 2) (H.c _) c3) ?_
   refine .mv rfl 3 ?_
   refine .sk rfl 4 ?_
   refine .sk rfl 4 ?_
   refine .sk rfl 4 ?_
   refine .sk rfl 4 ?_
   refine .e rfl (fun H=>x_pkF (H.g 7 4) (H.c _)) ?_
   refine .mv rfl 9 ?_
   refine .dk (fun u=>.agg #[pt b1,pt b2]::u1 0::u 10::sq u 0 10 []) K14 bel fun u2 w2 D bel=>?_
   have E2_10:=D.q 10
   clear D
   exact wp_ret (rt rfl E2_10 (zero_b c3 c11) bel)
  ·
   refine gs 2 (Amb S W) fun _ K15=>?_
   refine .bx rfl (fun H=>H.v 0 (.agg #[pt b1,pt b2])) ?_
   refine .mc rfl ?_
   refine .dk (fun u=>.agg #[pt b1,pt b2]::u 0::u 1::us 10) K15 bel fun u1 w1 D bel=>?_
   obtain ⟨b16,E1_0,A16,B16⟩:=D.nw 0
   have E1_1:=D.q 1
   replace F1:=D.o L1 F1
   replace F2:=D.o L2 F2
   clear D
   refine gs 11 (Amb S W) fun _ K17=>?_
   refine .fz rfl 1 0 E1_0 ?_
   refine .lc rfl 0 B16 ?_ (V:=pt b1)
   refine .cK rfl Tryz.func109 (fun H=>⟨_,ar1 (H.g 4 1),qSign _ (VP.any _ (H.was _ [] (VP.at F1 L1)))⟩) ?_
   refine .e rfl (V:=.bool false) (fun H=>x_cm (H.g 5 2) (H.c _) c3) ?_
   refine .mv rfl 3 ?_
   refine .sk rfl 4 ?_
   refine .sk rfl 4 ?_
   refine .sk rfl 4 ?_
   refine .sk rfl 4 ?_
   refine .e rfl (fun H=>x_pkF (H.g 7 4) (H.c _)) ?_
   refine .mv rfl 9 ?_
   refine .dk (fun u=>.agg #[pt b1,pt b2]::u1 0::u 10::sq u 0 10 []) K17 bel fun u2 w2 D bel=>?_
   have E2_10:=D.q 10
   clear D
   exact wp_ret (rt rfl E2_10 (zero_b c3 c11) bel)
theorem xDiv {v0:Value} {v1:Value} (x:Cx) (y:Cx) (t0:(CxP x).p S v0 W) (t1:(CxP y).p S v1 W) (p0:ht x.re + ht x.im + ht y.re + ht y.im ≤ 1073741824) (p1:y.norm ≠ 0) :
  Calls Tryz.prog 54 #[v0,v1] W (Ret (CxP (x.div y)) S W):=by
 obtain ⟨b1,b2,rfl,L1,L2,F1,F2⟩:=CxP.elim t0
 replace L1:Amb S W b1:=.inl L1
 replace L2:Amb S W b2:=.inl L2
 obtain ⟨b3,b4,rfl,L3,L4,F3,F4⟩:=CxP.elim t1
 replace L3:Amb S W b3:=.inl L3
 replace L4:Amb S W b4:=.inl L4
 have h1:=hc_conj y
 have h2:=hc_mul x y.conj
 have h3:=hc_norm y
 have h4:=ht_inv y.norm
 have bel:=b0 W
 go_enter Tryz.func54,Tryz.ntmps54
 refine gs 3 (Amb S W) fun _ K5=>?_
 refine .bx rfl (fun H=>H.v 0 (.agg #[pt b1,pt b2])) ?_
 refine .bx rfl (fun H=>H.v 1 (.agg #[pt b3,pt b4])) ?_
 refine .al rfl (#[.pointer none,.pointer none]) ?_
 refine .dk (fun u=>.agg #[pt b1,pt b2]::.agg #[pt b3,pt b4]::sq u 0 3 (us 9)) K5 bel fun u1 w1 D bel=>?_
 obtain ⟨b6,E1_0,A6,B6⟩:=D.nw 0
 obtain ⟨b7,E1_1,A7,B7⟩:=D.nw 1
 obtain ⟨b8,E1_2,A8,B8⟩:=D.nw 2
 have N1_8:=D.n1 2 (RatP.lt F1) E1_2
 have N2_8:=D.n1 2 (RatP.lt F2) E1_2
 have N3_8:=D.n1 2 (RatP.lt F3) E1_2
 have N4_8:=D.n1 2 (RatP.lt F4) E1_2
 have N6_8:=D.n2 0 2 E1_0 E1_2
 have N7_8:=D.n2 1 2 E1_1 E1_2
 replace F1:=D.o L1 F1
 replace F2:=D.o L2 F2
 replace F3:=D.o L3 F3
 replace F4:=D.o L4 F4
 clear D
 refine gd1 10 (Amb S W) 9 B8 fun _ K9=>?_
 refine .e rfl (fun H=>x_ldr (H.z 2 E1_0) (H.b1 B6 (Ne.symm N6_8))) ?_
 refine .e rfl (fun H=>x_ldr (H.z 3 E1_1) (H.b1 B7 (Ne.symm N7_8))) ?_
 refine .cR rfl [] Tryz.func110 (fun H=>⟨_,ar1 (H.g 6 1),xConj _ (CxP.mk (H.was _ [] (VP.at F3 L3)) (H.was _ [] (VP.at F4 L4))) (by first | omega | exact p1)⟩) ?_
 refine .cR rfl [2] Tryz.func67 (fun H=>⟨_,ar2 (H.g 5 0) (H.r 7 2),xMul _ _ (CxP.mk (H.was _ [2] (VP.at F1 L1)) (H.was _ [2] (VP.at F2 L2))) (SV.sub [2] (H.a 2 rfl) rfl) (by first | omega | exact p1)⟩) ?_
 refine .al rfl zQ ?_
 refine .e rfl (fun H=>x_ldr (H.z 3 E1_1) (H.b1 B7 (Ne.symm N7_8))) ?_
 refine .cR rfl [] Tryz.func113 (fun H=>⟨_,ar1 (H.g 10 5),xNorm _ (CxP.mk (H.was _ [] (VP.at F3 L3)) (H.was _ [] (VP.at F4 L4))) (by first | omega | exact p1)⟩) ?_
 refine .cO rfl 4 Tryz.func112 (fun H h0 hz=>⟨_,ar2 (H.p 9 4 h0) (H.r 11 6),qInv _ (RatBlk.of hz) (SV.any (H.a 6 rfl)) (by first | omega | exact p1) (by first | omega | exact p1)⟩) ?_
 refine .cR rfl [2,3,4,7] Tryz.func111 (fun H=>⟨_,ar2 (H.r 8 3) (H.r 12 7),xScale _ _ (SV.sub [2,3,4,7] (H.a 3 rfl) rfl) (Own.use (H.a 7 rfl) (H.a 4 rfl) [2,3,4,7] rfl) (by first | omega | exact p1)⟩) ?_
 refine Go2.storeOld (i:=9) 0 b8 rfl rfl rfl ⟨_,_,_,B8,rfl⟩ (SP.old 0 b8 [8] (fun u=>#[((u 8).v.cells.getD 0 undef),((u 8).v.cells.getD 1 undef)]) 81 (by intro u u' h; simp [h 8 (by simp)]) (lt_of B8) (by intro y k hy; match y,hy with | 0,hy=>rfl)) (fun u μ ρ H=>?_) ?_
 · have e4:=H.z 4 E1_2; have e13:=H.r 13 8; have hb:=H.blkOld B8 0 9 rfl (.inl rfl)
   obtain ⟨x1,x2,h1,h2,h3⟩:=(H.a 8 rfl)
   have o1:=VP1.rat h2
   have o2:=VP1.rat h3
   rw [h1] at e13
   refine ⟨μ.setRow b8 #[x1,x2],ex_store_row 81 _ _ rfl e4 e13 hb (by kernel_rfl) rfl (by simp [o1,o2]),fun g=>?_,setRow_only _ _ _⟩
   show (World.setRow _ _ _).heap[b8]? = _
   rw [setRow_at hb]; try simp [upd,h1,Value.cells]
 refine .d1 (fun u=>.agg #[pt b1,pt b2]::.agg #[pt b3,pt b4]::sq u1 0 3 (sq u 0 9 [])) K9 bel A8 fun u2 w2 D bel=>?_
 obtain ⟨b10,b11,E2_8,L10,L11,F10,F11⟩:=CxP.elim (D.rr 8)
 replace B8:w2.heap[b8]? = _:=(D.a 9 rfl)
 simp only [Value.cells,E2_8] at B8
 clear D
 refine wp_ret ?_
 refine ret_ok rfl (by exact results_row rfl (by exact E1_2) B8 Tryz.underlying81 rfl (by kernel_rfl)) ⟨_,rfl,?_,bel⟩
 exact cx_eq (cx_over x y) (CxP.mk (VP.at F10 L10) (VP.at F11 L11))
theorem xNumber (x:Int) (p0:hi x ≤ 1099511627000) :
  Calls Tryz.prog 172 #[wV x] W (Ret (IntO x) S W):=by
 have q0:=hi_bl x
 have q1:=hi_nat x.natAbs
 have bel:=b0 W
 go_enter Tryz.func172,Tryz.ntmps172
 refine gs 2 (Amb S W) fun _ K1=>?_
 refine .bx rfl (fun H=>H.v 0 (wV x)) ?_
 refine .mc rfl ?_
 refine .dk (fun u=>wV x::u 0::u 1::us 12) K1 bel fun u1 w1 D bel=>?_
 obtain ⟨b2,E1_0,A2,B2⟩:=D.nw 0
 have E1_1:=D.q 1
 clear D
 refine gs 6 (Amb S W) fun _ K3=>?_
 refine .al rfl zI ?_
 refine .fz rfl 1 1 E1_0 ?_
 refine .lc rfl 1 B2 ?_ (V:=.string (bS x.natAbs))
 refine Go2.grow (i:=3) rfl (G0 rfl) (.val 3 [] (BytP x.natAbs)) (fun u μ ρ H=>by have e6:=H.g 6 2; obtain ⟨v_,w_,hr_,hm_,hb_⟩:=conv_byt x.natAbs μ (by omega); exact ⟨v_,w_,ex_conv rfl e6 hr_,SP.bytVal hm_,hb_⟩) ?_
 refine .cO rfl 0 Tryz.func199 (fun H h0 hz=>⟨_,ar2 (H.p 4 0 h0) (H.r 7 3),bSetBytes (n:=_) (IntBlk.of hz) (SV.any (H.a 3 rfl)) (by omega)⟩) ?_
 refine .mo rfl 4 ?_
 refine .dk (fun u=>wV x::u1 0::u1 1::u 5::sq u 0 5 (us 6)) K3 bel fun u2 w2 D bel=>?_
 obtain ⟨b4,E2_5,A4,F4⟩:=D.ow 5
 have N2_4:=D.n1 0 (lt_of B2) ((D.a 5 rfl).1.symm.trans E2_5)
 replace B2:=D.k B2
 have L4:Amb S W b4:=.inr A4
 clear D
 refine wp_seq_k fun _ K5=>?_
 refine gs 2 (Amb S W) fun _ K6=>?_
 refine .fz rfl 1 0 E1_0 ?_
 refine .lc rfl 0 B2 ?_ (V:=.bool (decide (x < 0)))
 refine .dk (fun u=>wV x::u1 0::u1 1::u2 5::sq u2 0 5 (u 0::u 1::us 4)) K6 bel fun u3 w3 D bel=>?_
 have E3_1:=D.q 1
 replace F4:=D.o L4 F4
 clear D
 rcases Bool.eq_false_or_eq_true (decide (x < 0)) with c7 | c7
 ·
  refine wp_cond_true ((E3_1).trans (congrArg Value.bool c7)) ?_
  have dc7:=of_decide_eq_true c7
  refine go2_seqT 2 1 rfl (Amb S W) [] [] (Olds.nil _) (by kernel_rfl) ?_
  refine .mz rfl 3 E2_5 ?_
  refine .mz rfl 3 E2_5 ?_
  refine .dT (fun u=>wV x::u1 0::u1 1::u2 5::sq u2 0 5 (u3 0::u3 1::sq u 0 3 (U::[]))) bel.size _ rfl fun u4 w4 D=>?_
  have E4_0:=D.q 0
  have E4_1:=D.q 1
  replace F4:=D.o L4 F4
  replace bel:=D.d.base.bel0 bel bel.size
  clear D
  refine wpT_callO (args:=#[pt b4,pt b4]) rfl (ex_call rfl rfl Tryz.func195 (by kernel_rfl) (by kernel_rfl) (by simp only [List.map_toArray,List.map_cons,List.map_nil]; show #[(u4 0).v,(u4 1).v] = #[pt b4,pt b4]; rw [E4_0,E4_1])) (bNeg (z:=b4) (x:=(x.natAbs:Int)) (IntO.blk F4) (IntO.p (VP.any _ F4)) (by omega)) fun w8 fw8 ow8=>?_
  have sw8:Soft w4 b4 ∨ Local w4 b4:=.inl (IntO.soft F4)
  have F4:=fw8
  have L4:Amb S W b4:=.inr A4
  replace bel:=bel.trans (only_below' ow8 A4 bel.size)
  refine wpList_nil ?_
  show _
  refine K5 _ _ ?_
  refine gs 2 (Amb S W) fun _ K9=>?_
  refine .mz rfl 3 E2_5 ?_
  refine .mv rfl 0 ?_
  refine .dk (fun u=>wV x::u1 0::u 1::u2 5::sq u2 0 5 (u3 0::u3 1::u4 0::u4 1::.pointer (some ⟨b4,0,none⟩)::u 0::[])) K9 bel fun u5 w5 D bel=>?_
  have E5_1:=D.q 1
  replace F4:=D.o L4 F4
  clear D
  refine wp_ret ?_
  refine ret_ok rfl (by exact results_tmp' rfl (by exact E5_1)) ⟨_,rfl,?_,bel⟩
  exact into_eq (num_n dc7) (VP.at F4 L4)
 ·
  refine wp_cond_false ((E3_1).trans (congrArg Value.bool c7)) ?_
  have dc7:=of_decide_eq_false c7
  refine wp_skip ?_
  refine K5 _ _ ?_
  refine gs 2 (Amb S W) fun _ K10=>?_
  refine .mz rfl 3 E2_5 ?_
  refine .mv rfl 0 ?_
  refine .dk (fun u=>wV x::u1 0::u 1::u2 5::sq u2 0 5 (u3 0::u3 1::U::U::U::u 0::[])) K10 bel fun u6 w6 D bel=>?_
  have E6_1:=D.q 1
  replace F4:=D.o L4 F4
  clear D
  refine wp_ret ?_
  refine ret_ok rfl (by exact results_tmp' rfl (by exact E6_1)) ⟨_,rfl,?_,bel⟩
  exact into_eq (num_p dc7) (VP.at F4 L4)
theorem frNumber (x:Int) (p0:hi x ≤ 1099511627000) :
  Calls Tryz.prog 180 #[wV x] W (Ret (IntO x) S W):=by
 have q0:=hi_bl x
 have q1:=hi_nat x.natAbs
 have bel:=b0 W
 go_enter Tryz.func180,Tryz.ntmps180
 refine gs 2 (Amb S W) fun _ K1=>?_
 refine .bx rfl (fun H=>H.v 0 (wV x)) ?_
 refine .mc rfl ?_
 refine .dk (fun u=>wV x::u 0::u 1::us 12) K1 bel fun u1 w1 D bel=>?_
 obtain ⟨b2,E1_0,A2,B2⟩:=D.nw 0
 have E1_1:=D.q 1
 clear D
 refine gs 6 (Amb S W) fun _ K3=>?_
 refine .al rfl zI ?_
 refine .fz rfl 1 1 E1_0 ?_
 refine .lc rfl 1 B2 ?_ (V:=.string (bS x.natAbs))
 refine Go2.grow (i:=3) rfl (G0 rfl) (.val 3 [] (BytP x.natAbs)) (fun u μ ρ H=>by have e6:=H.g 6 2; obtain ⟨v_,w_,hr_,hm_,hb_⟩:=conv_byt x.natAbs μ (by omega); exact ⟨v_,w_,ex_conv rfl e6 hr_,SP.bytVal hm_,hb_⟩) ?_
 refine .cO rfl 0 Tryz.func199 (fun H h0 hz=>⟨_,ar2 (H.p 4 0 h0) (H.r 7 3),bSetBytes (n:=_) (IntBlk.of hz) (SV.any (H.a 3 rfl)) (by omega)⟩) ?_
 refine .mo rfl 4 ?_
 refine .dk (fun u=>wV x::u1 0::u1 1::u 5::sq u 0 5 (us 6)) K3 bel fun u2 w2 D bel=>?_
 obtain ⟨b4,E2_5,A4,F4⟩:=D.ow 5
 have N2_4:=D.n1 0 (lt_of B2) ((D.a 5 rfl).1.symm.trans E2_5)
 replace B2:=D.k B2
 have L4:Amb S W b4:=.inr A4
 clear D
 refine wp_seq_k fun _ K5=>?_
 refine gs 2 (Amb S W) fun _ K6=>?_
 refine .fz rfl 1 0 E1_0 ?_
 refine .lc rfl 0 B2 ?_ (V:=.bool (decide (x < 0)))
 refine .dk (fun u=>wV x::u1 0::u1 1::u2 5::sq u2 0 5 (u 0::u 1::us 4)) K6 bel fun u3 w3 D bel=>?_
 have E3_1:=D.q 1
 replace F4:=D.o L4 F4
 clear D
 rcases Bool.eq_false_or_eq_true (decide (x < 0)) with c7 | c7
 ·
  refine wp_cond_true ((E3_1).trans (congrArg Value.bool c7)) ?_
  have dc7:=of_decide_eq_true c7
  refine go2_seqT 2 1 rfl (Amb S W) [] [] (Olds.nil _) (by kernel_rfl) ?_
  refine .mz rfl 3 E2_5 ?_
  refine .mz rfl 3 E2_5 ?_
  refine .dT (fun u=>wV x::u1 0::u1 1::u2 5::sq u2 0 5 (u3 0::u3 1::sq u 0 3 (U::[]))) bel.size _ rfl fun u4 w4 D=>?_
  have E4_0:=D.q 0
  have E4_1:=D.q 1
  replace F4:=D.o L4 F4
  replace bel:=D.d.base.bel0 bel bel.size
  clear D
  refine wpT_callO (args:=#[pt b4,pt b4]) rfl (ex_call rfl rfl Tryz.func195 (by kernel_rfl) (by kernel_rfl) (by simp only [List.map_toArray,List.map_cons,List.map_nil]; show #[(u4 0).v,(u4 1).v] = #[pt b4,pt b4]; rw [E4_0,E4_1])) (bNeg (z:=b4) (x:=(x.natAbs:Int)) (IntO.blk F4) (IntO.p (VP.any _ F4)) (by omega)) fun w8 fw8 ow8=>?_
  have sw8:Soft w4 b4 ∨ Local w4 b4:=.inl (IntO.soft F4)
  have F4:=fw8
  have L4:Amb S W b4:=.inr A4
  replace bel:=bel.trans (only_below' ow8 A4 bel.size)
  refine wpList_nil ?_
  show _
  refine K5 _ _ ?_
  refine gs 2 (Amb S W) fun _ K9=>?_
  refine .mz rfl 3 E2_5 ?_
  refine .mv rfl 0 ?_
  refine .dk (fun u=>wV x::u1 0::u 1::u2 5::sq u2 0 5 (u3 0::u3 1::u4 0::u4 1::.pointer (some ⟨b4,0,none⟩)::u 0::[])) K9 bel fun u5 w5 D bel=>?_
  have E5_1:=D.q 1
  replace F4:=D.o L4 F4
  clear D
  refine wp_ret ?_
  refine ret_ok rfl (by exact results_tmp' rfl (by exact E5_1)) ⟨_,rfl,?_,bel⟩
  exact into_eq (num_n dc7) (VP.at F4 L4)
 ·
  refine wp_cond_false ((E3_1).trans (congrArg Value.bool c7)) ?_
  have dc7:=of_decide_eq_false c7
  refine wp_skip ?_
  refine K5 _ _ ?_
  refine gs 2 (Amb S W) fun _ K10=>?_
  refine .mz rfl 3 E2_5 ?_
  refine .mv rfl 0 ?_
  refine .dk (fun u=>wV x::u1 0::u 1::u2 5::sq u2 0 5 (u3 0::u3 1::U::U::U::u 0::[])) K10 bel fun u6 w6 D bel=>?_
  have E6_1:=D.q 1
  replace F4:=D.o L4 F4
  clear D
  refine wp_ret ?_
  refine ret_ok rfl (by exact results_tmp' rfl (by exact E6_1)) ⟨_,rfl,?_,bel⟩
  exact into_eq (num_p dc7) (VP.at F4 L4)
theorem xRat (x:Rat) (p0:ht x ≤ 34359738368) :
  Calls Tryz.prog 115 #[fV x] W (Ret (RatP x) S W):=by
 have n0:=hi_num x
 have n2:=hi_den x
 have bel:=b0 W
 go_enter Tryz.func115,Tryz.ntmps115
 refine gs 2 (Amb S W) fun _ K1=>?_
 refine .bx rfl (fun H=>H.v 0 (fV x)) ?_
 refine .mc rfl ?_
 refine .dk (fun u=>fV x::u 0::u 1::us 8) K1 bel fun u1 w1 D bel=>?_
 obtain ⟨b2,E1_0,A2,B2⟩:=D.nw 0
 have E1_1:=D.q 1
 clear D
 refine gd 9 (Amb S W) fun _ K3=>?_
 refine .al rfl zQ ?_
 refine .fz rfl 1 0 E1_0 ?_
 refine .lp rfl 1 (wC x.num) B2 ?_
 refine .cR rfl [] Tryz.func172 (fun H=>⟨_,ar1 (H.g 5 2),xNumber _ (by first | omega | exact den_ne x)⟩) ?_
 refine .fz rfl 1 2 E1_0 ?_
 refine .lp rfl 4 (wC (x.den:Int)) B2 ?_
 refine .cR rfl [] Tryz.func172 (fun H=>⟨_,ar1 (H.g 8 5),xNumber _ (by first | omega | exact den_ne x)⟩) ?_
 refine .cO rfl 0 Tryz.func160 (fun H h0 hz=>⟨_,ar3 (H.p 3 0 h0) (H.r 6 3) (H.r 9 6),qSetFrac _ _ (RatBlk.of hz) (IntO.p (SV.any (H.a 3 rfl))) (IntO.p (SV.any (H.a 6 rfl))) (by first | omega | exact den_ne x) (by first | omega | exact den_ne x)⟩) ?_
 refine .mo rfl 7 ?_
 refine .dk (fun u=>fV x::u1 0::u 8::sq u 0 8 []) K3 bel fun u2 w2 D bel=>?_
 obtain ⟨b4,E2_8,A4,F4⟩:=D.ow 8
 have L4:Amb S W b4:=.inr A4
 clear D
 refine wp_ret ?_
 refine ret_ok rfl (by exact results_tmp' rfl (by exact E2_8)) ⟨_,rfl,?_,bel⟩
 exact rat_eq (fr_self x) (VP.at F4 L4)
theorem frRat (x:Rat) (p0:ht x ≤ 34359738368) :
  Calls Tryz.prog 135 #[fV x] W (Ret (RatP x) S W):=by
 have n0:=hi_num x
 have n2:=hi_den x
 have bel:=b0 W
 go_enter Tryz.func135,Tryz.ntmps135
 refine gs 2 (Amb S W) fun _ K1=>?_
 refine .bx rfl (fun H=>H.v 0 (fV x)) ?_
 refine .mc rfl ?_
 refine .dk (fun u=>fV x::u 0::u 1::us 8) K1 bel fun u1 w1 D bel=>?_
 obtain ⟨b2,E1_0,A2,B2⟩:=D.nw 0
 have E1_1:=D.q 1
 clear D
 refine gd 9 (Amb S W) fun _ K3=>?_
 refine .al rfl zQ ?_
 refine .fz rfl 1 0 E1_0 ?_
 refine .lp rfl 1 (wC x.num) B2 ?_
 refine .cR rfl [] Tryz.func180 (fun H=>⟨_,ar1 (H.g 5 2),frNumber _ (by first | omega | exact den_ne x)⟩) ?_
 refine .fz rfl 1 2 E1_0 ?_
 refine .lp rfl 4 (wC (x.den:Int)) B2 ?_
 refine .cR rfl [] Tryz.func180 (fun H=>⟨_,ar1 (H.g 8 5),frNumber _ (by first | omega | exact den_ne x)⟩) ?_
 refine .cO rfl 0 Tryz.func160 (fun H h0 hz=>⟨_,ar3 (H.p 3 0 h0) (H.r 6 3) (H.r 9 6),qSetFrac _ _ (RatBlk.of hz) (IntO.p (SV.any (H.a 3 rfl))) (IntO.p (SV.any (H.a 6 rfl))) (by first | omega | exact den_ne x) (by first | omega | exact den_ne x)⟩) ?_
 refine .mo rfl 7 ?_
 refine .dk (fun u=>fV x::u1 0::u 8::sq u 0 8 []) K3 bel fun u2 w2 D bel=>?_
 obtain ⟨b4,E2_8,A4,F4⟩:=D.ow 8
 have L4:Amb S W b4:=.inr A4
 clear D
 refine wp_ret ?_
 refine ret_ok rfl (by exact results_tmp' rfl (by exact E2_8)) ⟨_,rfl,?_,bel⟩
 exact rat_eq (fr_self x) (VP.at F4 L4)
theorem xBack {v0:Value} (x:Int) (t0:(IntP x).p S v0 W) (p0:hi x ≤ 1099511627776) :
  Calls Tryz.prog 170 #[v0] W (RetV (wV x) W):=by
 obtain ⟨b1,ob1,rfl,L1,F1⟩:=IntP.elim t0
 replace L1:Amb S W b1:=.inl L1
 have bel:=b0 W
 go_enter Tryz.func170,Tryz.ntmps170
 refine gs 1 (Amb S W) fun _ K2=>?_
 refine .al rfl zW ?_
 refine .dk (fun u=>.pointer (some ⟨b1,ob1,none⟩)::U::u 0::us 7) K2 bel fun u1 w1 D bel=>?_
 obtain ⟨b3,E1_0,A3,B3⟩:=D.nw 0
 have N1_3:=D.n1 0 (IntP.lt F1) E1_0
 replace F1:=D.o L1 F1
 clear D
 refine gs1 8 (Amb S W) 7 B3 fun _ K4=>?_
 refine .mz rfl 0 (V:=.pointer (some ⟨b1,ob1,none⟩)) rfl ?_
 refine .cK rfl Tryz.func168 (fun H=>⟨_,ar1 (H.g 3 0),bSign _ (VP.any _ (H.was _ [] (VP.at F1 L1)))⟩) ?_
 refine .e rfl (V:=.bool (decide (x.sign < 0))) (fun H=>x_cmp (H.g 4 1) (H.c _)) ?_
 refine .mz rfl 0 (V:=.pointer (some ⟨b1,ob1,none⟩)) rfl ?_
 refine .cR rfl [] Tryz.func171 (fun H=>⟨_,ar1 (H.g 6 3),bBytes _ (H.was _ [] (VP.at F1 L1)) (by omega)⟩) ?_
 refine Go2.eq (i:=5) rfl (G0 rfl) (V:=.string (bS x.natAbs)) (by intro u μ ρ H; have e7:=H.r 7 4; exact ex_conv rfl e7 (Byts.str (SV.any (H.a 4 rfl)))) ?_
 refine .e rfl (V:=.agg #[.bool (decide (x.sign < 0)),.string (bS x.natAbs)]) (fun H=>by have e5:=H.g 5 2; have e8:=H.g 8 5; clear H; go_simp) ?_
 refine .s1 rfl B3 (fun H=>⟨H.z 2 E1_0,H.g 9 6⟩) ?_
 refine .d1 (fun u=>.pointer (some ⟨b1,ob1,none⟩)::U::u1 0::sq u 0 7 []) K4 bel A3 fun u2 w2 D bel=>?_
 replace B3:=D.ol 7
 clear D
 exact wp_ret (rr rfl E1_0 B3 (back_w x) bel)
theorem frBack {v0:Value} (x:Int) (t0:(IntP x).p S v0 W) (p0:hi x ≤ 1099511627776) :
  Calls Tryz.prog 141 #[v0] W (RetV (wV x) W):=by
 obtain ⟨b1,ob1,rfl,L1,F1⟩:=IntP.elim t0
 replace L1:Amb S W b1:=.inl L1
 have bel:=b0 W
 go_enter Tryz.func141,Tryz.ntmps141
 refine gs 1 (Amb S W) fun _ K2=>?_
 refine .al rfl zW ?_
 refine .dk (fun u=>.pointer (some ⟨b1,ob1,none⟩)::U::u 0::us 7) K2 bel fun u1 w1 D bel=>?_
 obtain ⟨b3,E1_0,A3,B3⟩:=D.nw 0
 have N1_3:=D.n1 0 (IntP.lt F1) E1_0
 replace F1:=D.o L1 F1
 clear D
 refine gs1 8 (Amb S W) 7 B3 fun _ K4=>?_
 refine .mz rfl 0 (V:=.pointer (some ⟨b1,ob1,none⟩)) rfl ?_
 refine .cK rfl Tryz.func168 (fun H=>⟨_,ar1 (H.g 3 0),bSign _ (VP.any _ (H.was _ [] (VP.at F1 L1)))⟩) ?_
 refine .e rfl (V:=.bool (decide (x.sign < 0))) (fun H=>x_cmp (H.g 4 1) (H.c _)) ?_
 refine .mz rfl 0 (V:=.pointer (some ⟨b1,ob1,none⟩)) rfl ?_
 refine .cR rfl [] Tryz.func171 (fun H=>⟨_,ar1 (H.g 6 3),bBytes _ (H.was _ [] (VP.at F1 L1)) (by omega)⟩) ?_
 refine Go2.eq (i:=5) rfl (G0 rfl) (V:=.string (bS x.natAbs)) (by intro u μ ρ H; have e7:=H.r 7 4; exact ex_conv rfl e7 (Byts.str (SV.any (H.a 4 rfl)))) ?_
 refine .e rfl (V:=.agg #[.bool (decide (x.sign < 0)),.string (bS x.natAbs)]) (fun H=>by have e5:=H.g 5 2; have e8:=H.g 8 5; clear H; go_simp) ?_
 refine .s1 rfl B3 (fun H=>⟨H.z 2 E1_0,H.g 9 6⟩) ?_
 refine .d1 (fun u=>.pointer (some ⟨b1,ob1,none⟩)::U::u1 0::sq u 0 7 []) K4 bel A3 fun u2 w2 D bel=>?_
 replace B3:=D.ol 7
 clear D
 exact wp_ret (rr rfl E1_0 B3 (back_w x) bel)
theorem frTold {v0:Value} (x:Rat) (t0:(RatP x).p S v0 W) (p0:ht x ≤ 68719476736) :
  Calls Tryz.prog 102 #[v0] W (RetV (fV x) W):=by
 obtain ⟨b1,rfl,L1,F1⟩:=RatP.elim t0
 replace L1:Amb S W b1:=.inl L1
 have n0:=hi_num x
 have n2:=hi_den x
 have bel:=b0 W
 go_enter Tryz.func102,Tryz.ntmps102
 refine gs 1 (Amb S W) fun _ K2=>?_
 refine .al rfl zF ?_
 refine .dk (fun u=>pt b1::U::u 0::us 7) K2 bel fun u1 w1 D bel=>?_
 obtain ⟨b3,E1_0,A3,B3⟩:=D.nw 0
 have N1_3:=D.n1 0 (RatP.lt F1) E1_0
 replace F1:=D.o L1 F1
 clear D
 refine gs1 8 (Amb S W) 7 B3 fun _ K4=>?_
 refine .mz rfl 0 (V:=pt b1) rfl ?_
 refine .cR rfl [] Tryz.func164 (fun H=>⟨_,ar1 (H.g 3 0),qNum _ (H.was _ [] (VP.at F1 L1)) (by omega)⟩) ?_
 refine .cK rfl Tryz.func141 (fun H=>⟨_,ar1 (H.r 4 1),frBack _ (IntO.p (SV.any (H.a 1 rfl))) (by omega)⟩) ?_
 refine .mz rfl 0 (V:=pt b1) rfl ?_
 refine .cR rfl [] Tryz.func69 (fun H=>⟨_,ar1 (H.g 6 3),qDenom _ (H.was _ [] (VP.at F1 L1)) (by omega)⟩) ?_
 refine .cK rfl Tryz.func141 (fun H=>⟨_,ar1 (H.r 7 4),frBack _ (IntO.p (SV.any (H.a 4 rfl))) (by omega)⟩) ?_
 refine .e rfl (V:=fV x) (fun H=>by have e5:=H.g 5 2; have e8:=H.g 8 5; clear H; go_simp) ?_
 refine .s1 rfl B3 (fun H=>⟨H.z 2 E1_0,H.g 9 6⟩) ?_
 refine .d1 (fun u=>pt b1::U::u1 0::sq u 0 7 []) K4 bel A3 fun u2 w2 D bel=>?_
 replace B3:=D.ol 7
 clear D
 exact wp_ret (rr rfl E1_0 B3 rfl bel)
theorem xOf (x:Cx) (p0:ht x.re + ht x.im ≤ 34359738368) :
  Calls Tryz.prog 57 #[gV x] W (Ret (CxP x) S W):=by
 have bel:=b0 W
 go_enter Tryz.func57,Tryz.ntmps57
 refine gs 2 (Amb S W) fun _ K1=>?_
 refine .bx rfl (fun H=>H.v 0 (gV x)) ?_
 refine .al rfl (#[.pointer none,.pointer none]) ?_
 refine .dk (fun u=>gV x::u 0::u 1::us 7) K1 bel fun u1 w1 D bel=>?_
 obtain ⟨b2,E1_0,A2,B2⟩:=D.nw 0
 obtain ⟨b3,E1_1,A3,B3⟩:=D.nw 1
 have N2_3:=D.n2 0 1 E1_0 E1_1
 clear D
 refine gd1 8 (Amb S W) 7 B3 fun _ K4=>?_
 refine .fz rfl 1 0 E1_0 ?_
 refine .e rfl (V:=fV x.re) (fun H=>x_ldp (H.g 3 0) (H.b1 B2 (Ne.symm N2_3))) ?_
 refine .cR rfl [] Tryz.func115 (fun H=>⟨_,ar1 (H.g 4 1),xRat _ (by omega)⟩) ?_
 refine .fz rfl 1 4 E1_0 ?_
 refine .e rfl (V:=fV x.im) (fun H=>x_ldp (H.g 6 3) (H.b1 B2 (Ne.symm N2_3))) ?_
 refine .cR rfl [] Tryz.func115 (fun H=>⟨_,ar1 (H.g 7 4),xRat _ (by omega)⟩) ?_
 refine Go2.fn (i:=6) rfl (G0 rfl) (SP.fnL 6 [2,5] (fun u=>.agg #[(u 2).v,(u 5).v]) (by intro u u' h; simp [h 2 (by simp),h 5 (by simp)])) (fun u μ ρ H=>⟨_,by have e5:=H.r 5 2; have e8:=H.r 8 5; obtain ⟨x2,h2⟩:=RatP.isPtr (H.a 2 rfl); obtain ⟨x5,h5⟩:=RatP.isPtr (H.a 5 rfl); clear H; go_simp,SP.fnL_upd (by decide)⟩) ?_
 refine Go2.storeOld (i:=7) 0 b3 rfl rfl rfl ⟨_,_,_,B3,rfl⟩ (SP.old 0 b3 [2,5] (fun u=>#[(u 2).v,(u 5).v]) 81 (by intro u u' h; simp [h 2 (by simp),h 5 (by simp)]) (lt_of B3) (by intro y k hy; match y,hy with | 0,hy=>rfl)) (fun u μ ρ H=>?_) ?_
 · have e2:=H.z 2 E1_1; have e9:=H.e 9 6 (by kernel_rfl) (H.a 6 rfl); have o2:=VP1.rat (H.a 2 rfl); have o5:=VP1.rat (H.a 5 rfl); have hb:=H.blkOld B3 0 7 rfl (.inl rfl)
   refine ⟨μ.setRow b3 #[(u 2).v,(u 5).v],ex_store_row 81 _ _ rfl e2 e9 hb (by kernel_rfl) rfl (by simp [o2,o5] <;> rfl),fun g=>?_,setRow_only _ _ _⟩
   show (World.setRow _ _ _).heap[b3]? = _
   rw [setRow_at hb]; try simp [upd]
 refine .d1 (fun u=>gV x::u1 0::u1 1::sq u 0 7 []) K4 bel A3 fun u2 w2 D bel=>?_
 obtain ⟨b5,E2_2,L5,F5⟩:=RatP.elim (D.rr 2)
 obtain ⟨b6,E2_5,L6,F6⟩:=RatP.elim (D.rr 5)
 replace B3:w2.heap[b3]? = _:=(D.a 7 rfl)
 simp only [Value.cells,E2_2,E2_5] at B3
 clear D
 refine wp_ret ?_
 refine ret_ok rfl (by exact results_row rfl (by exact E1_1) B3 Tryz.underlying81 rfl (by kernel_rfl)) ⟨_,rfl,?_,bel⟩
 exact (CxP.mk (VP.at F5 L5) (VP.at F6 L6))
theorem xInt (m:Int) (n:Int) (p0:-9223372036854775808 ≤ m) (p1:m ≤ 9223372036854775807) (p2:-9223372036854775808 ≤ n) (p3:n ≤ 9223372036854775807) :
  Calls Tryz.prog 51 #[.int .i64 m,.int .i64 n] W (Ret (CxP (Cx.ofInt m n)) S W):=by
 have bel:=b0 W
 go_enter Tryz.func51,Tryz.ntmps51
 refine gs 1 (Amb S W) fun _ K1=>?_
 refine .al rfl (#[.pointer none,.pointer none]) ?_
 refine .dk (fun u=>.int .i64 m::.int .i64 n::U::U::u 0::us 7) K1 bel fun u1 w1 D bel=>?_
 obtain ⟨b2,E1_0,A2,B2⟩:=D.nw 0
 clear D
 refine gs1 8 (Amb S W) 7 B2 fun _ K3=>?_
 refine .al rfl zQ ?_
 refine .mz rfl 0 (V:=.int .i64 m) rfl ?_
 refine .cO rfl 0 Tryz.func103 (fun H h0 hz=>⟨_,ar2 (H.p 5 0 h0) (H.g 6 1),qSetInt64 _ (RatBlk.of hz) (by omega) (by omega)⟩) ?_
 refine .al rfl zQ ?_
 refine .mz rfl 1 (V:=.int .i64 n) rfl ?_
 refine .cO rfl 3 Tryz.func103 (fun H h0 hz=>⟨_,ar2 (H.p 8 3 h0) (H.g 9 4),qSetInt64 _ (RatBlk.of hz) (by omega) (by omega)⟩) ?_
 refine Go2.fn (i:=6) rfl (G0 rfl) (SP.fnL 6 [2,5] (fun u=>.agg #[(u 2).v,(u 5).v]) (by intro u u' h; simp [h 2 (by simp),h 5 (by simp)])) (fun u μ ρ H=>⟨_,by have e7:=H.r 7 2; have e10:=H.r 10 5; obtain ⟨x2,h2⟩:=RatP.isPtr (Own.any (H.a 2 rfl)); obtain ⟨x5,h5⟩:=RatP.isPtr (Own.any (H.a 5 rfl)); clear H; go_simp,SP.fnL_upd (by decide)⟩) ?_
 refine Go2.storeOld (i:=7) 0 b2 rfl rfl rfl ⟨_,_,_,B2,rfl⟩ (SP.old 0 b2 [2,5] (fun u=>#[(u 2).v,(u 5).v]) 81 (by intro u u' h; simp [h 2 (by simp),h 5 (by simp)]) (lt_of B2) (by intro y k hy; match y,hy with | 0,hy=>rfl)) (fun u μ ρ H=>?_) ?_
 · have e4:=H.z 4 E1_0; have e11:=H.e 11 6 (by kernel_rfl) (H.a 6 rfl); have o2:=VP1.rat (Own.any (H.a 2 rfl)); have o5:=VP1.rat (Own.any (H.a 5 rfl)); have hb:=H.blkOld B2 0 7 rfl (.inl rfl)
   refine ⟨μ.setRow b2 #[(u 2).v,(u 5).v],ex_store_row 81 _ _ rfl e4 e11 hb (by kernel_rfl) rfl (by simp [o2,o5] <;> rfl),fun g=>?_,setRow_only _ _ _⟩
   show (World.setRow _ _ _).heap[b2]? = _
   rw [setRow_at hb]; try simp [upd]
 refine .d1 (fun u=>.int .i64 m::.int .i64 n::U::U::u1 0::sq u 0 7 []) K3 bel A2 fun u2 w2 D bel=>?_
 obtain ⟨b4,E2_2,A4,F4⟩:=D.ow 2
 obtain ⟨b5,E2_5,A5,F5⟩:=D.ow 5
 have N2_4:=D.n1 0 (lt_of B2) ((D.a 2 rfl).1.symm.trans E2_2)
 have N2_5:=D.n1 3 (lt_of B2) ((D.a 5 rfl).1.symm.trans E2_5)
 replace B2:w2.heap[b2]? = _:=(D.a 7 rfl)
 simp only [Value.cells,E2_2,E2_5] at B2
 have L4:Amb S W b4:=.inr A4
 have L5:Amb S W b5:=.inr A5
 clear D
 refine wp_ret ?_
 refine ret_ok rfl (by exact results_row rfl (by exact E1_0) B2 Tryz.underlying81 rfl (by kernel_rfl)) ⟨_,rfl,?_,bel⟩
 exact (CxP.mk (VP.at F4 L4) (VP.at F5 L5))
theorem xFrac {v0:Value} (x:Rat) (t0:(RatP x).p S v0 W) (p0:ht x ≤ 68719476736) :
  Calls Tryz.prog 114 #[v0] W (RetV (.tuple #[.agg #[.bool (fcut x).a.n,.string (fcut x).a.s,.bool (fcut x).b.n,.string (fcut x).b.s],.int .i64 (ferr x)]) W):=by
 obtain ⟨b1,rfl,L1,F1⟩:=RatP.elim t0
 replace L1:Amb S W b1:=.inl L1
 have n0:=hi_num x
 have n2:=hi_den x
 have bel:=b0 W
 go_enter Tryz.func114,Tryz.ntmps114
 rcases Bool.eq_false_or_eq_true (decide (1024 < (((bS x.num.natAbs).size:Nat):Int))) with c2 | c2
 ·
  have dc2:=of_decide_eq_true c2
  rcases Bool.eq_false_or_eq_true (decide (1024 < (((bS (x.den:Int).natAbs).size:Nat):Int))) with c3 | c3
  ·
   have dc3:=of_decide_eq_true c3
   refine gs 2 (Amb S W) fun _ K4=>?_
   refine .al rfl zF ?_
   refine .mc rfl ?_
   refine .dk (fun u=>pt b1::U::u 0::u 1::us 25) K4 bel fun u1 w1 D bel=>?_
   obtain ⟨b5,E1_0,A5,B5⟩:=D.nw 0
   have E1_1:=D.q 1
   have N1_5:=D.n1 0 (RatP.lt F1) E1_0
   replace F1:=D.o L1 F1
   clear D
   refine gs 1 (Amb S W) fun _ K6=>?_
   refine .e rfl (fun H=>x_as (H.func _)) ?_
   refine .dk (fun u=>pt b1::U::u1 0::u1 1::u 0::us 24) K6 bel fun u2 w2 D bel=>?_
   have E2_0:=D.q 0
   replace B5:=D.k B5
   replace F1:=D.o L1 F1
   clear D
   refine gs 11 (Amb S W) fun _ K7=>?_
   refine .mz rfl 4 E2_0 ?_
   refine .mz rfl 0 (V:=pt b1) rfl ?_
   refine .cR rfl [] Tryz.func164 (fun H=>⟨_,ar1 (H.g 7 1),qNum _ (H.was _ [] (VP.at F1 L1)) (by omega)⟩) ?_
   refine Go2.callK (i:=3) rfl (G0 rfl) (V:=wV x.num) (f:=170) (fun u μ ρ H=>⟨#[(u 2).v],by have e8:=H.r 8 2; have e6:=H.g 6 0; exact ex_callv rfl e6 Tryz.func170 (by kernel_rfl) (by kernel_rfl) (by simp only [List.map_toArray,List.map_cons,List.map_nil,e8]),xBack (x:=x.num) (IntO.p (SV.any (H.a 2 rfl))) (by omega)⟩) ?_
   refine .mz rfl 4 E2_0 ?_
   refine .mz rfl 0 (V:=pt b1) rfl ?_
   refine .cR rfl [] Tryz.func69 (fun H=>⟨_,ar1 (H.g 11 5),qDenom _ (H.was _ [] (VP.at F1 L1)) (by omega)⟩) ?_
   refine Go2.callK (i:=7) rfl (G0 rfl) (V:=wV (x.den:Int)) (f:=170) (fun u μ ρ H=>⟨#[(u 6).v],by have e12:=H.r 12 6; have e10:=H.g 10 4; exact ex_callv rfl e10 Tryz.func170 (by kernel_rfl) (by kernel_rfl) (by simp only [List.map_toArray,List.map_cons,List.map_nil,e12]),xBack (x:=(x.den:Int)) (IntO.p (SV.any (H.a 6 rfl))) (by omega)⟩) ?_
   refine .e rfl (V:=fV x) (fun H=>by have e9:=H.g 9 3; have e13:=H.g 13 7; clear H; go_simp) ?_
   refine .al rfl zF ?_
   refine .so rfl 9 (fun H=>⟨H.r 5 9,H.g 14 8⟩) ?_
   refine .dk (fun u=>pt b1::U::u1 0::u1 1::u2 0::u 9::sq u 0 9 (us 14)) K7 bel fun u3 w3 D bel=>?_
   obtain ⟨b8,E3_9,A8,B8⟩:=D.st 10
   have N5_8:=D.n1 9 (lt_of B5) E3_9
   replace B5:=D.k B5
   clear D
   refine wp_seq_k fun _ K9=>?_
   refine gs 12 (Amb S W) fun _ K10=>?_
   refine .fz rfl 5 0 E3_9 ?_
   refine .fj rfl 0 1 ?_
   refine .lc rfl 1 B8 ?_ (V:=.string (bS x.num.natAbs))
   refine .e rfl (V:=.int .i64 (((bS x.num.natAbs).size:Nat):Int)) (fun H=>by have e17:=H.g 17 2; clear H; go_simp) ?_
   refine .e rfl (V:=.bool true) (fun H=>x_cm (H.g 18 3) (H.c _) c2) ?_
   refine .mv rfl 4 ?_
   refine .sk rfl 5 ?_
   refine .sk rfl 5 ?_
   refine .sk rfl 5 ?_
   refine .sk rfl 5 ?_
   refine .sk rfl 5 ?_
   refine .e rfl (fun H=>x_pkT (H.g 20 5) (H.c _)) ?_
   refine .dk (fun u=>pt b1::U::u1 0::u1 1::u2 0::u3 9::sq u3 0 9 (sq u 0 12 (U::U::[]))) K10 bel fun u4 w4 D bel=>?_
   have E4_11:=D.q 11
   replace B5:=D.k B5
   replace B8:=D.k B8
   clear D
   refine wp_cond_true (by exact E4_11) ?_
   refine gs1 3 (Amb S W) 1 B5 fun _ K11=>?_
   refine .e rfl (V:=.agg zF) (fun H=>by clear H; go_simp) ?_
   refine .s1 rfl B5 (fun H=>⟨H.z 2 E1_0,H.g 27 0⟩) ?_
   refine .mc rfl ?_
   refine .d1 (fun u=>pt b1::U::u1 0::u 2::u2 0::u3 9::sq u3 0 9 (sq u4 0 12 (u 0::U::[]))) K11 bel A5 fun u5 w5 D bel=>?_
   have E5_2:=D.q 2
   replace B5:=D.ol 1
   clear D
   refine wp_ret ?_
   refine ret_ok rfl (by exact results_mix rfl (by exact E1_0) B5 Tryz.underlying28 rfl (by kernel_rfl) (by exact E5_2)) (RetV.mk ?_ bel)
   exact congrArg Ending.returned (fcut_no (fcut_2 c2))
  ·
   have dc3:=of_decide_eq_false c3
   refine gs 2 (Amb S W) fun _ K12=>?_
   refine .al rfl zF ?_
   refine .mc rfl ?_
   refine .dk (fun u=>pt b1::U::u 0::u 1::us 25) K12 bel fun u1 w1 D bel=>?_
   obtain ⟨b13,E1_0,A13,B13⟩:=D.nw 0
   have E1_1:=D.q 1
   have N1_13:=D.n1 0 (RatP.lt F1) E1_0
   replace F1:=D.o L1 F1
   clear D
   refine gs 1 (Amb S W) fun _ K14=>?_
   refine .e rfl (fun H=>x_as (H.func _)) ?_
   refine .dk (fun u=>pt b1::U::u1 0::u1 1::u 0::us 24) K14 bel fun u2 w2 D bel=>?_
   have E2_0:=D.q 0
   replace B13:=D.k B13
   replace F1:=D.o L1 F1
   clear D
   refine gs 11 (Amb S W) fun _ K15=>?_
   refine .mz rfl 4 E2_0 ?_
   refine .mz rfl 0 (V:=pt b1) rfl ?_
   refine .cR rfl [] Tryz.func164 (fun H=>⟨_,ar1 (H.g 7 1),qNum _ (H.was _ [] (VP.at F1 L1)) (by omega)⟩) ?_
   refine Go2.callK (i:=3) rfl (G0 rfl) (V:=wV x.num) (f:=170) (fun u μ ρ H=>⟨#[(u 2).v],by have e8:=H.r 8 2; have e6:=H.g 6 0; exact ex_callv rfl e6 Tryz.func170 (by kernel_rfl) (by kernel_rfl) (by simp only [List.map_toArray,List.map_cons,List.map_nil,e8]),xBack (x:=x.num) (IntO.p (SV.any (H.a 2 rfl))) (by omega)⟩) ?_
   refine .mz rfl 4 E2_0 ?_
   refine .mz rfl 0 (V:=pt b1) rfl ?_
   refine .cR rfl [] Tryz.func69 (fun H=>⟨_,ar1 (H.g 11 5),qDenom _ (H.was _ [] (VP.at F1 L1)) (by omega)⟩) ?_
   refine Go2.callK (i:=7) rfl (G0 rfl) (V:=wV (x.den:Int)) (f:=170) (fun u μ ρ H=>⟨#[(u 6).v],by have e12:=H.r 12 6; have e10:=H.g 10 4; exact ex_callv rfl e10 Tryz.func170 (by kernel_rfl) (by kernel_rfl) (by simp only [List.map_toArray,List.map_cons,List.map_nil,e12]),xBack (x:=(x.den:Int)) (IntO.p (SV.any (H.a 6 rfl))) (by omega)⟩) ?_
   refine .e rfl (V:=fV x) (fun H=>by have e9:=H.g 9 3; have e13:=H.g 13 7; clear H; go_simp) ?_
   refine .al rfl zF ?_
   refine .so rfl 9 (fun H=>⟨H.r 5 9,H.g 14 8⟩) ?_
   refine .dk (fun u=>pt b1::U::u1 0::u1 1::u2 0::u 9::sq u 0 9 (us 14)) K15 bel fun u3 w3 D bel=>?_
   obtain ⟨b16,E3_9,A16,B16⟩:=D.st 10
   have N13_16:=D.n1 9 (lt_of B13) E3_9
   replace B13:=D.k B13
   clear D
   refine wp_seq_k fun _ K17=>?_
   refine gs 12 (Amb S W) fun _ K18=>?_
   refine .fz rfl 5 0 E3_9 ?_
   refine .fj rfl 0 1 ?_
   refine .lc rfl 1 B16 ?_ (V:=.string (bS x.num.natAbs))
   refine .e rfl (V:=.int .i64 (((bS x.num.natAbs).size:Nat):Int)) (fun H=>by have e17:=H.g 17 2; clear H; go_simp) ?_
   refine .e rfl (V:=.bool true) (fun H=>x_cm (H.g 18 3) (H.c _) c2) ?_
   refine .mv rfl 4 ?_
   refine .sk rfl 5 ?_
   refine .sk rfl 5 ?_
   refine .sk rfl 5 ?_
   refine .sk rfl 5 ?_
   refine .sk rfl 5 ?_
   refine .e rfl (fun H=>x_pkT (H.g 20 5) (H.c _)) ?_
   refine .dk (fun u=>pt b1::U::u1 0::u1 1::u2 0::u3 9::sq u3 0 9 (sq u 0 12 (U::U::[]))) K18 bel fun u4 w4 D bel=>?_
   have E4_11:=D.q 11
   replace B13:=D.k B13
   replace B16:=D.k B16
   clear D
   refine wp_cond_true (by exact E4_11) ?_
   refine gs1 3 (Amb S W) 1 B13 fun _ K19=>?_
   refine .e rfl (V:=.agg zF) (fun H=>by clear H; go_simp) ?_
   refine .s1 rfl B13 (fun H=>⟨H.z 2 E1_0,H.g 27 0⟩) ?_
   refine .mc rfl ?_
   refine .d1 (fun u=>pt b1::U::u1 0::u 2::u2 0::u3 9::sq u3 0 9 (sq u4 0 12 (u 0::U::[]))) K19 bel A13 fun u5 w5 D bel=>?_
   have E5_2:=D.q 2
   replace B13:=D.ol 1
   clear D
   refine wp_ret ?_
   refine ret_ok rfl (by exact results_mix rfl (by exact E1_0) B13 Tryz.underlying28 rfl (by kernel_rfl) (by exact E5_2)) (RetV.mk ?_ bel)
   exact congrArg Ending.returned (fcut_no (fcut_2 c2))
 ·
  have dc2:=of_decide_eq_false c2
  rcases Bool.eq_false_or_eq_true (decide (1024 < (((bS (x.den:Int).natAbs).size:Nat):Int))) with c20 | c20
  ·
   have dc20:=of_decide_eq_true c20
   refine gs 2 (Amb S W) fun _ K21=>?_
   refine .al rfl zF ?_
   refine .mc rfl ?_
   refine .dk (fun u=>pt b1::U::u 0::u 1::us 25) K21 bel fun u1 w1 D bel=>?_
   obtain ⟨b22,E1_0,A22,B22⟩:=D.nw 0
   have E1_1:=D.q 1
   have N1_22:=D.n1 0 (RatP.lt F1) E1_0
   replace F1:=D.o L1 F1
   clear D
   refine gs 1 (Amb S W) fun _ K23=>?_
   refine .e rfl (fun H=>x_as (H.func _)) ?_
   refine .dk (fun u=>pt b1::U::u1 0::u1 1::u 0::us 24) K23 bel fun u2 w2 D bel=>?_
   have E2_0:=D.q 0
   replace B22:=D.k B22
   replace F1:=D.o L1 F1
   clear D
   refine gs 11 (Amb S W) fun _ K24=>?_
   refine .mz rfl 4 E2_0 ?_
   refine .mz rfl 0 (V:=pt b1) rfl ?_
   refine .cR rfl [] Tryz.func164 (fun H=>⟨_,ar1 (H.g 7 1),qNum _ (H.was _ [] (VP.at F1 L1)) (by omega)⟩) ?_
   refine Go2.callK (i:=3) rfl (G0 rfl) (V:=wV x.num) (f:=170) (fun u μ ρ H=>⟨#[(u 2).v],by have e8:=H.r 8 2; have e6:=H.g 6 0; exact ex_callv rfl e6 Tryz.func170 (by kernel_rfl) (by kernel_rfl) (by simp only [List.map_toArray,List.map_cons,List.map_nil,e8]),xBack (x:=x.num) (IntO.p (SV.any (H.a 2 rfl))) (by omega)⟩) ?_
   refine .mz rfl 4 E2_0 ?_
   refine .mz rfl 0 (V:=pt b1) rfl ?_
   refine .cR rfl [] Tryz.func69 (fun H=>⟨_,ar1 (H.g 11 5),qDenom _ (H.was _ [] (VP.at F1 L1)) (by omega)⟩) ?_
   refine Go2.callK (i:=7) rfl (G0 rfl) (V:=wV (x.den:Int)) (f:=170) (fun u μ ρ H=>⟨#[(u 6).v],by have e12:=H.r 12 6; have e10:=H.g 10 4; exact ex_callv rfl e10 Tryz.func170 (by kernel_rfl) (by kernel_rfl) (by simp only [List.map_toArray,List.map_cons,List.map_nil,e12]),xBack (x:=(x.den:Int)) (IntO.p (SV.any (H.a 6 rfl))) (by omega)⟩) ?_
   refine .e rfl (V:=fV x) (fun H=>by have e9:=H.g 9 3; have e13:=H.g 13 7; clear H; go_simp) ?_
   refine .al rfl zF ?_
   refine .so rfl 9 (fun H=>⟨H.r 5 9,H.g 14 8⟩) ?_
   refine .dk (fun u=>pt b1::U::u1 0::u1 1::u2 0::u 9::sq u 0 9 (us 14)) K24 bel fun u3 w3 D bel=>?_
   obtain ⟨b25,E3_9,A25,B25⟩:=D.st 10
   have N22_25:=D.n1 9 (lt_of B22) E3_9
   replace B22:=D.k B22
   clear D
   refine wp_seq_k fun _ K26=>?_
   refine gs 12 (Amb S W) fun _ K27=>?_
   refine .fz rfl 5 0 E3_9 ?_
   refine .fj rfl 0 1 ?_
   refine .lc rfl 1 B25 ?_ (V:=.string (bS x.num.natAbs))
   refine .e rfl (V:=.int .i64 (((bS x.num.natAbs).size:Nat):Int)) (fun H=>by have e17:=H.g 17 2; clear H; go_simp) ?_
   refine .e rfl (V:=.bool false) (fun H=>x_cm (H.g 18 3) (H.c _) c2) ?_
   refine .mv rfl 4 ?_
   refine .fz rfl 5 2 E3_9 ?_ (hg:=gq 5 rfl)
   refine .fj rfl 6 3 ?_ (hg:=gq 5 rfl)
   refine .lc rfl 7 B25 ?_ (V:=.string (bS (x.den:Int).natAbs)) (hg:=gq 5 rfl)
   refine .e rfl (V:=.int .i64 (((bS (x.den:Int).natAbs).size:Nat):Int)) (fun H=>by have e23:=H.g 23 8; clear H; go_simp) ?_ (hg:=gq 5 rfl)
   refine .e rfl (V:=.bool true) (fun H=>x_cm (H.g 24 9) (H.c _) c20) ?_ (hg:=gq 5 rfl)
   refine .e rfl (fun H=>x_pkF (H.g 20 5) (H.g 25 10)) ?_
   refine .dk (fun u=>pt b1::U::u1 0::u1 1::u2 0::u3 9::sq u3 0 9 (sq u 0 12 (U::U::[]))) K27 bel fun u4 w4 D bel=>?_
   have E4_11:=D.q 11
   replace B22:=D.k B22
   replace B25:=D.k B25
   clear D
   refine wp_cond_true (by exact E4_11) ?_
   refine gs1 3 (Amb S W) 1 B22 fun _ K28=>?_
   refine .e rfl (V:=.agg zF) (fun H=>by clear H; go_simp) ?_
   refine .s1 rfl B22 (fun H=>⟨H.z 2 E1_0,H.g 27 0⟩) ?_
   refine .mc rfl ?_
   refine .d1 (fun u=>pt b1::U::u1 0::u 2::u2 0::u3 9::sq u3 0 9 (sq u4 0 12 (u 0::U::[]))) K28 bel A22 fun u5 w5 D bel=>?_
   have E5_2:=D.q 2
   replace B22:=D.ol 1
   clear D
   refine wp_ret ?_
   refine ret_ok rfl (by exact results_mix rfl (by exact E1_0) B22 Tryz.underlying28 rfl (by kernel_rfl) (by exact E5_2)) (RetV.mk ?_ bel)
   exact congrArg Ending.returned (fcut_no (fcut_3 c20))
  ·
   have dc20:=of_decide_eq_false c20
   refine gs 2 (Amb S W) fun _ K29=>?_
   refine .al rfl zF ?_
   refine .mc rfl ?_
   refine .dk (fun u=>pt b1::U::u 0::u 1::us 25) K29 bel fun u1 w1 D bel=>?_
   obtain ⟨b30,E1_0,A30,B30⟩:=D.nw 0
   have E1_1:=D.q 1
   have N1_30:=D.n1 0 (RatP.lt F1) E1_0
   replace F1:=D.o L1 F1
   clear D
   refine gs 1 (Amb S W) fun _ K31=>?_
   refine .e rfl (fun H=>x_as (H.func _)) ?_
   refine .dk (fun u=>pt b1::U::u1 0::u1 1::u 0::us 24) K31 bel fun u2 w2 D bel=>?_
   have E2_0:=D.q 0
   replace B30:=D.k B30
   replace F1:=D.o L1 F1
   clear D
   refine gs 11 (Amb S W) fun _ K32=>?_
   refine .mz rfl 4 E2_0 ?_
   refine .mz rfl 0 (V:=pt b1) rfl ?_
   refine .cR rfl [] Tryz.func164 (fun H=>⟨_,ar1 (H.g 7 1),qNum _ (H.was _ [] (VP.at F1 L1)) (by omega)⟩) ?_
   refine Go2.callK (i:=3) rfl (G0 rfl) (V:=wV x.num) (f:=170) (fun u μ ρ H=>⟨#[(u 2).v],by have e8:=H.r 8 2; have e6:=H.g 6 0; exact ex_callv rfl e6 Tryz.func170 (by kernel_rfl) (by kernel_rfl) (by simp only [List.map_toArray,List.map_cons,List.map_nil,e8]),xBack (x:=x.num) (IntO.p (SV.any (H.a 2 rfl))) (by omega)⟩) ?_
   refine .mz rfl 4 E2_0 ?_
   refine .mz rfl 0 (V:=pt b1) rfl ?_
   refine .cR rfl [] Tryz.func69 (fun H=>⟨_,ar1 (H.g 11 5),qDenom _ (H.was _ [] (VP.at F1 L1)) (by omega)⟩) ?_
   refine Go2.callK (i:=7) rfl (G0 rfl) (V:=wV (x.den:Int)) (f:=170) (fun u μ ρ H=>⟨#[(u 6).v],by have e12:=H.r 12 6; have e10:=H.g 10 4; exact ex_callv rfl e10 Tryz.func170 (by kernel_rfl) (by kernel_rfl) (by simp only [List.map_toArray,List.map_cons,List.map_nil,e12]),xBack (x:=(x.den:Int)) (IntO.p (SV.any (H.a 6 rfl))) (by omega)⟩) ?_
   refine .e rfl (V:=fV x) (fun H=>by have e9:=H.g 9 3; have e13:=H.g 13 7; clear H; go_simp) ?_
   refine .al rfl zF ?_
   refine .so rfl 9 (fun H=>⟨H.r 5 9,H.g 14 8⟩) ?_
   refine .dk (fun u=>pt b1::U::u1 0::u1 1::u2 0::u 9::sq u 0 9 (us 14)) K32 bel fun u3 w3 D bel=>?_
   obtain ⟨b33,E3_9,A33,B33⟩:=D.st 10
   have N30_33:=D.n1 9 (lt_of B30) E3_9
   replace B30:=D.k B30
   clear D
   refine wp_seq_k fun _ K34=>?_
   refine gs 12 (Amb S W) fun _ K35=>?_
   refine .fz rfl 5 0 E3_9 ?_
   refine .fj rfl 0 1 ?_
   refine .lc rfl 1 B33 ?_ (V:=.string (bS x.num.natAbs))
   refine .e rfl (V:=.int .i64 (((bS x.num.natAbs).size:Nat):Int)) (fun H=>by have e17:=H.g 17 2; clear H; go_simp) ?_
   refine .e rfl (V:=.bool false) (fun H=>x_cm (H.g 18 3) (H.c _) c2) ?_
   refine .mv rfl 4 ?_
   refine .fz rfl 5 2 E3_9 ?_ (hg:=gq 5 rfl)
   refine .fj rfl 6 3 ?_ (hg:=gq 5 rfl)
   refine .lc rfl 7 B33 ?_ (V:=.string (bS (x.den:Int).natAbs)) (hg:=gq 5 rfl)
   refine .e rfl (V:=.int .i64 (((bS (x.den:Int).natAbs).size:Nat):Int)) (fun H=>by have e23:=H.g 23 8; clear H; go_simp) ?_ (hg:=gq 5 rfl)
   refine .e rfl (V:=.bool false) (fun H=>x_cm (H.g 24 9) (H.c _) c20) ?_ (hg:=gq 5 rfl)
   refine .e rfl (fun H=>x_pkF (H.g 20 5) (H.g 25 10)) ?_
   refine .dk (fun u=>pt b1::U::u1 0::u1 1::u2 0::u3 9::sq u3 0 9 (sq u 0 12 (U::U::[]))) K35 bel fun u4 w4 D bel=>?_
   have E4_11:=D.q 11
   replace B30:=D.k B30
   replace B33:=D.k B33
   clear D
   refine wp_cond_false (by exact E4_11) ?_
   refine wp_skip ?_
   refine K34 _ _ ?_
   refine gs1 3 (Amb S W) 1 B30 fun _ K36=>?_
   refine .e rfl (fun H=>x_ldr (H.z 5 E3_9) (H.b1 B33 N30_33)) ?_
   refine .s1 rfl B30 (fun H=>⟨H.z 2 E1_0,H.g 28 0⟩) ?_
   refine .mc rfl ?_
   refine .d1 (fun u=>pt b1::U::u1 0::u 2::u2 0::u3 9::sq u3 0 9 (sq u4 0 12 (U::u 0::[]))) K36 bel A30 fun u5 w5 D bel=>?_
   have E5_2:=D.q 2
   replace B30:=D.ol 1
   clear D
   refine wp_ret ?_
   refine ret_ok rfl (by exact results_mix rfl (by exact E1_0) B30 Tryz.underlying28 rfl (by kernel_rfl) (by exact E5_2)) (RetV.mk ?_ bel)
   exact congrArg Ending.returned (fcut_yes (fcut_1 c2 c20))
end Go.Proofs.YtllohoibifcmdaaGreat
namespace Go.Proofs.YtllohoibifcmdaaGreat
open Go.RowKit Rgn
def werr (r:RW):Int:=if (wformed r && decide (r.s.size ≤ 16384)) = true then 0 else 2
theorem wCheck {W:World} (r:RW):Calls Tryz.prog 142 #[.agg #[.bool r.n,.string r.s]] W (RetV (.int .i64 (werr r)) W):=by
 obtain ⟨n,⟨⟨l⟩⟩⟩:=r
 have hb:Below W.heap.size W (W.alloc (.cells #[.bool n,.string ⟨⟨l⟩⟩] 26)):=Below.alloc (Below.refl _ _) (Nat.le_refl _) _
 cases l with
 | nil =>
  cases n with
  | false =>
   go_enter Tryz.func142,Tryz.ntmps142
   go_wp2_with fail
   refine ret_ok rfl (by exact results_tmp' rfl rfl) (RetV.mk ?_ hb)
   rfl
  | true =>
   go_enter Tryz.func142,Tryz.ntmps142
   go_wp2_with fail
   refine ret_ok rfl (by exact results_tmp' rfl rfl) (RetV.mk ?_ hb)
   rfl
 | cons c t =>
  have hf:wformed ⟨n,⟨⟨c :: t⟩⟩⟩ = (c != 0):=rfl
  have hs:(RW.mk n ⟨⟨c :: t⟩⟩).s.size = t.length + 1:=rfl
  by_cases h:c = 0
  ·have he:werr ⟨n,⟨⟨c :: t⟩⟩⟩ = 2:=by
    unfold werr; rw [if_neg]; rw [hf]; subst h; exact fun x=>absurd x (by simp)
   rw [he]
   subst h
   clear he hs hf
   go_enter Tryz.func142,Tryz.ntmps142
   go_wp2_with fail
   exact ret_ok rfl (by exact results_tmp' rfl rfl) (RetV.mk rfl hb)
  ·have h2:c.toNat ≠ 0:=fun e=>h (UInt8.toNat_inj.1 e)
   have h3:((c.toNat:Int) == 0) = false:=by rw [beq_eq_false_iff_ne]; omega
   by_cases hl:t.length + 1 ≤ 16384
   ·have hl' : ¬ (16384:Int) < (t.length:Int) + 1:=by omega
    have he:werr ⟨n,⟨⟨c :: t⟩⟩⟩ = 0:=by
     unfold werr; rw [if_pos]; rw [hf,hs,bne_iff_ne.2 h,decide_eq_true hl]; rfl
    rw [he]
    clear he hs hf
    go_enter Tryz.func142,Tryz.ntmps142
    go_wp2_with fail
    exact ret_ok rfl (by exact results_tmp' rfl rfl) (RetV.mk rfl hb)
   ·have hl' : (16384:Int) < (t.length:Int) + 1:=by omega
    have he:werr ⟨n,⟨⟨c :: t⟩⟩⟩ = 2:=by
     unfold werr; rw [if_neg]; rw [hs,decide_eq_false hl,Bool.and_false]; decide
    rw [he]
    clear he hs hf
    go_enter Tryz.func142,Tryz.ntmps142
    go_wp2_with fail
    exact ret_ok rfl (by exact results_tmp' rfl rfl) (RetV.mk rfl hb)
def wsign (r:RW):Int:=if werr r ≠ 0 ∨ r = RW.mk false ⟨#[]⟩ then 0 else if r.n = true then -1 else 1
theorem wsign_0 {r:RW} (h:((werr r) != 0) = true):Value.int .i64 0 = .int .i64 (wsign r):=by
 unfold wsign; rw [if_pos (.inl (bne_iff_ne.1 h))]
theorem wsign_1 {r:RW} (h:r = RW.mk false ⟨#[]⟩):Value.int .i64 0 = .int .i64 (wsign r):=by
 unfold wsign; rw [if_pos (.inr h)]
theorem wsign_no {r:RW} (h:((werr r) != 0) = false) (h1:¬ r = RW.mk false ⟨#[]⟩):¬ (werr r ≠ 0 ∨ r = RW.mk false ⟨#[]⟩):=by
 rintro (h2 | h2)
 ·exact h2 (by simpa using h)
 ·exact h1 h2
theorem wsign_2 {r:RW} (h:((werr r) != 0) = false) (h1:¬ r = RW.mk false ⟨#[]⟩) (h2:r.n = true):Value.int .i64 (-1) = .int .i64 (wsign r):=by
 unfold wsign; rw [if_neg (wsign_no h h1),if_pos h2]
theorem wsign_3 {r:RW} (h:((werr r) != 0) = false) (h1:¬ r = RW.mk false ⟨#[]⟩) (h2:r.n = false):Value.int .i64 1 = .int .i64 (wsign r):=by
 unfold wsign; rw [if_neg (wsign_no h h1),if_neg (by rw [h2]; decide)]
def wshort (r:RW):Bool:=decide (r.s.size ≤ 1024)
theorem wshort_b (r:RW):Value.bool (decide (((r.s.size:Nat):Int) ≤ 1024)) = .bool (wshort r):=congrArg Value.bool (decide_eq_decide.2 (by omega))
theorem told_w (x:Int):Value.tuple #[.agg #[.bool (decide (x.sign < 0)),.string (bS x.natAbs)],.int .i64 0] = .tuple #[.agg #[.bool (decide (x < 0)),.string (bS x.natAbs)],.int .i64 0]:=by rw [sign_lt]
theorem ht_divInt {a b:Int} (h:0 < b) {n:Nat} (h1:max (hi a) (hi b) ≤ n):ht (Rat.divInt a b) ≤ n + 1:=by
 obtain ⟨m,rfl⟩:=Int.eq_ofNat_of_zero_le (Int.le_of_lt h)
 have e:Rat.divInt a (m:Int) = mkRat a m:=rfl
 rw [e]
 have h2:=hi_bl a
 have h3:=hi_bl (m:Int)
 rw [Int.natAbs_natCast] at h3
 exact ht_mkRat a m (by omega) (by omega) (by omega)
theorem rw_zero:rw 0 = RW.mk false ⟨#[]⟩:=by
 unfold rw
 rw [show bS (0:Int).natAbs = ⟨#[]⟩ from by show (ByteArray.mk (bytesOf 0).toArray) = _; rw [bytesOf,leB_zero]; rfl]
 rfl
theorem wsign_rw {y:Int} (h:((werr (rw y)) != 0) = false):wsign (rw y) = y.sign:=by
 have h0:werr (rw y) = 0:=by simpa using h
 have hs:=sign3 y
 unfold wsign
 by_cases hy:y = 0
 ·subst hy
  rw [if_pos (.inr rw_zero)]; rfl
 ·rw [if_neg]
  ·by_cases hn:y < 0
   ·rw [if_pos (decide_eq_true hn)]; omega
   ·rw [if_neg (by show ¬ decide (y < 0) = true; rw [decide_eq_false hn]; decide)]; omega
  ·rintro (h1 | h1)
   ·exact h1 h0
   ·exact hy (rw_inj (h1.trans rw_zero.symm))
theorem werr_0 {r:RW} (h:((werr r) != 0) = false):wformed r = true ∧ r.s.size ≤ 16384:=by
 have h0:werr r = 0:=by simpa using h
 unfold werr at h0
 by_cases h1:(wformed r && decide (r.s.size ≤ 16384)) = true
 ·rw [Bool.and_eq_true,decide_eq_true_eq] at h1; exact h1
 ·rw [if_neg h1] at h0; exact absurd h0 (by decide)
theorem werr_1 {r:RW} (h:((werr r) != 0) = true):wformed r = false ∨ 16384 < r.s.size:=by
 have h0:werr r ≠ 0:=bne_iff_ne.1 h
 unfold werr at h0
 by_cases h1:(wformed r && decide (r.s.size ≤ 16384)) = true
 ·rw [if_pos h1] at h0; exact absurd rfl h0
 ·rw [Bool.not_eq_true,Bool.and_eq_false_iff,decide_eq_false_iff_not] at h1
  exact h1.imp id (fun h=>by omega)
def gcut (x:Cx):RG:=if gfits (rg x) = true then rg x else ⟨⟨⟨false,⟨#[]⟩⟩,⟨false,⟨#[]⟩⟩⟩,⟨⟨false,⟨#[]⟩⟩,⟨false,⟨#[]⟩⟩⟩⟩
def gerr (x:Cx):Int:=if gfits (rg x) = true then 0 else 4
theorem ferr_1 {q:Rat} (h:((ferr q) != 0) = true):fits (rf q) = false:=by
 unfold ferr at h
 cases e:fits (rf q) with
 | false=>rfl
 | true=>rw [if_pos e] at h; exact absurd h (by decide)
theorem ferr_0 {q:Rat} (h:((ferr q) != 0) = false):fits (rf q) = true:=by
 unfold ferr at h
 cases e:fits (rf q) with
 | true=>rfl
 | false=>rw [if_neg (by rw [e]; decide)] at h; exact absurd h (by decide)
theorem gfits_no {x:Cx} (h:((ferr x.re) != 0) = true ∨ ((ferr x.im) != 0) = true):gfits (rg x) = false:=by
 show (fits (rf x.re) && fits (rf x.im)) = false
 rcases h with h | h
 ·rw [ferr_1 h,Bool.false_and]
 ·rw [ferr_1 h,Bool.and_false]
theorem gcut_no {x:Cx} (h:((ferr x.re) != 0) = true ∨ ((ferr x.im) != 0) = true):Value.tuple #[.agg #[.bool false,.string ⟨#[]⟩,.bool false,.string ⟨#[]⟩,.bool false,.string ⟨#[]⟩,.bool false,.string ⟨#[]⟩],.int .i64 4] =
  .tuple #[.agg #[.bool (gcut x).re.a.n,.string (gcut x).re.a.s,.bool (gcut x).re.b.n,.string (gcut x).re.b.s,.bool (gcut x).im.a.n,.string (gcut x).im.a.s,.bool (gcut x).im.b.n,.string (gcut x).im.b.s],.int .i64 (gerr x)]:=by
 unfold gcut gerr
 rw [if_neg (by rw [gfits_no h]; decide),if_neg (by rw [gfits_no h]; decide)]
theorem gcut_yes {x:Cx} (h:((ferr x.re) != 0) = false) (h' : ((ferr x.im) != 0) = false):Value.tuple #[.agg #[.bool (fcut x.re).a.n,.string (fcut x.re).a.s,.bool (fcut x.re).b.n,.string (fcut x.re).b.s,.bool (fcut x.im).a.n,.string (fcut x.im).a.s,.bool (fcut x.im).b.n,.string (fcut x.im).b.s],.int .i64 0] =
  .tuple #[.agg #[.bool (gcut x).re.a.n,.string (gcut x).re.a.s,.bool (gcut x).re.b.n,.string (gcut x).re.b.s,.bool (gcut x).im.a.n,.string (gcut x).im.a.s,.bool (gcut x).im.b.n,.string (gcut x).im.b.s],.int .i64 (gerr x)]:=by
 have h1:gfits (rg x) = true:=by
  show (fits (rf x.re) && fits (rf x.im)) = true
  rw [ferr_0 h,ferr_0 h']; rfl
 unfold gcut gerr fcut
 rw [if_pos h1,if_pos h1,if_pos (ferr_0 h),if_pos (ferr_0 h')]
end Go.Proofs.YtllohoibifcmdaaGreat
namespace Go.Proofs.YtllohoibifcmdaaGreat
open Go.RowKit Rgn
set_option maxHeartbeats 4000000
set_option maxRecDepth 100000
variable {S:Nat → Prop} {W:World}
theorem wSign (r:RW) :
  Calls Tryz.prog 101 #[rwV r] W (RetV (.int .i64 (wsign r)) W):=by
 have bel:=b0 W
 go_enter Tryz.func101,Tryz.ntmps101
 rcases Bool.eq_false_or_eq_true ((werr r) != 0) with c1 | c1
 ·
  rcases Bool.eq_false_or_eq_true (decide (r = RW.mk false ⟨#[]⟩)) with c2 | c2
  ·
   have dc2:=of_decide_eq_true c2
   rcases Bool.eq_false_or_eq_true (r.n) with c3 | c3
   ·
    refine gs 2 (Amb Z0 W) fun _ K4=>?_
    refine .bx rfl (fun H=>H.v 0 (rwV r)) ?_
    refine .mc rfl ?_
    refine .dk (fun u=>rwV r::u 0::u 1::us 12) K4 bel fun u1 w1 D bel=>?_
    obtain ⟨b5,E1_0,A5,B5⟩:=D.nw 0
    have E1_1:=D.q 1
    clear D
    refine wp_seq_k fun _ K6=>?_
    refine wp_block ?_
    refine gs 9 (Amb Z0 W) fun _ K7=>?_
    refine .lr rfl 1 E1_0 B5 ?_
    refine .cK rfl Tryz.func142 (fun H=>⟨_,ar1 (H.g 4 0),wCheck _⟩) ?_
    refine .e rfl (V:=.bool true) (fun H=>x_cm (H.g 5 1) (H.c _) c1) ?_
    refine .mv rfl 2 ?_
    refine .sk rfl 3 ?_
    refine .sk rfl 3 ?_
    refine .sk rfl 3 ?_
    refine .e rfl (fun H=>x_pkT (H.g 7 3) (H.c _)) ?_
    refine .mv rfl 7 ?_
    refine .dk (fun u=>rwV r::u1 0::u1 1::u 8::sq u 0 8 (us 3)) K7 bel fun u2 w2 D bel=>?_
    have E2_8:=D.q 8
    replace B5:=D.k B5
    clear D
    refine wp_cond_true (by exact E2_8) ?_
    refine gs 1 (Amb Z0 W) fun _ K8=>?_
    refine .mc rfl ?_
    refine .dk (fun u=>rwV r::u1 0::u 0::u2 8::sq u2 0 8 (us 3)) K8 bel fun u3 w3 D bel=>?_
    have E3_0:=D.q 0
    clear D
    exact wp_ret (rt rfl E3_0 (wsign_0 c1) bel)
   ·
    refine gs 2 (Amb Z0 W) fun _ K9=>?_
    refine .bx rfl (fun H=>H.v 0 (rwV r)) ?_
    refine .mc rfl ?_
    refine .dk (fun u=>rwV r::u 0::u 1::us 12) K9 bel fun u1 w1 D bel=>?_
    obtain ⟨b10,E1_0,A10,B10⟩:=D.nw 0
    have E1_1:=D.q 1
    clear D
    refine wp_seq_k fun _ K11=>?_
    refine wp_block ?_
    refine gs 9 (Amb Z0 W) fun _ K12=>?_
    refine .lr rfl 1 E1_0 B10 ?_
    refine .cK rfl Tryz.func142 (fun H=>⟨_,ar1 (H.g 4 0),wCheck _⟩) ?_
    refine .e rfl (V:=.bool true) (fun H=>x_cm (H.g 5 1) (H.c _) c1) ?_
    refine .mv rfl 2 ?_
    refine .sk rfl 3 ?_
    refine .sk rfl 3 ?_
    refine .sk rfl 3 ?_
    refine .e rfl (fun H=>x_pkT (H.g 7 3) (H.c _)) ?_
    refine .mv rfl 7 ?_
    refine .dk (fun u=>rwV r::u1 0::u1 1::u 8::sq u 0 8 (us 3)) K12 bel fun u2 w2 D bel=>?_
    have E2_8:=D.q 8
    replace B10:=D.k B10
    clear D
    refine wp_cond_true (by exact E2_8) ?_
    refine gs 1 (Amb Z0 W) fun _ K13=>?_
    refine .mc rfl ?_
    refine .dk (fun u=>rwV r::u1 0::u 0::u2 8::sq u2 0 8 (us 3)) K13 bel fun u3 w3 D bel=>?_
    have E3_0:=D.q 0
    clear D
    exact wp_ret (rt rfl E3_0 (wsign_0 c1) bel)
  ·
   have dc2:=of_decide_eq_false c2
   rcases Bool.eq_false_or_eq_true (r.n) with c14 | c14
   ·
    refine gs 2 (Amb Z0 W) fun _ K15=>?_
    refine .bx rfl (fun H=>H.v 0 (rwV r)) ?_
    refine .mc rfl ?_
    refine .dk (fun u=>rwV r::u 0::u 1::us 12) K15 bel fun u1 w1 D bel=>?_
    obtain ⟨b16,E1_0,A16,B16⟩:=D.nw 0
    have E1_1:=D.q 1
    clear D
    refine wp_seq_k fun _ K17=>?_
    refine wp_block ?_
    refine gs 9 (Amb Z0 W) fun _ K18=>?_
    refine .lr rfl 1 E1_0 B16 ?_
    refine .cK rfl Tryz.func142 (fun H=>⟨_,ar1 (H.g 4 0),wCheck _⟩) ?_
    refine .e rfl (V:=.bool true) (fun H=>x_cm (H.g 5 1) (H.c _) c1) ?_
    refine .mv rfl 2 ?_
    refine .sk rfl 3 ?_
    refine .sk rfl 3 ?_
    refine .sk rfl 3 ?_
    refine .e rfl (fun H=>x_pkT (H.g 7 3) (H.c _)) ?_
    refine .mv rfl 7 ?_
    refine .dk (fun u=>rwV r::u1 0::u1 1::u 8::sq u 0 8 (us 3)) K18 bel fun u2 w2 D bel=>?_
    have E2_8:=D.q 8
    replace B16:=D.k B16
    clear D
    refine wp_cond_true (by exact E2_8) ?_
    refine gs 1 (Amb Z0 W) fun _ K19=>?_
    refine .mc rfl ?_
    refine .dk (fun u=>rwV r::u1 0::u 0::u2 8::sq u2 0 8 (us 3)) K19 bel fun u3 w3 D bel=>?_
    have E3_0:=D.q 0
    clear D
    exact wp_ret (rt rfl E3_0 (wsign_0 c1) bel)
   ·
    refine gs 2 (Amb Z0 W) fun _ K20=>?_
    refine .bx rfl (fun H=>H.v 0 (rwV r)) ?_
    refine .mc rfl ?_
    refine .dk (fun u=>rwV r::u 0::u 1::us 12) K20 bel fun u1 w1 D bel=>?_
    obtain ⟨b21,E1_0,A21,B21⟩:=D.nw 0
    have E1_1:=D.q 1
    clear D
    refine wp_seq_k fun _ K22=>?_
    refine wp_block ?_
    refine gs 9 (Amb Z0 W) fun _ K23=>?_
    refine .lr rfl 1 E1_0 B21 ?_
    refine .cK rfl Tryz.func142 (fun H=>⟨_,ar1 (H.g 4 0),wCheck _⟩) ?_
    refine .e rfl (V:=.bool true) (fun H=>x_cm (H.g 5 1) (H.c _) c1) ?_
    refine .mv rfl 2 ?_
    refine .sk rfl 3 ?_
    refine .sk rfl 3 ?_
    refine .sk rfl 3 ?_
    refine .e rfl (fun H=>x_pkT (H.g 7 3) (H.c _)) ?_
    refine .mv rfl 7 ?_
    refine .dk (fun u=>rwV r::u1 0::u1 1::u 8::sq u 0 8 (us 3)) K23 bel fun u2 w2 D bel=>?_
    have E2_8:=D.q 8
    replace B21:=D.k B21
    clear D
    refine wp_cond_true (by exact E2_8) ?_
    refine gs 1 (Amb Z0 W) fun _ K24=>?_
    refine .mc rfl ?_
    refine .dk (fun u=>rwV r::u1 0::u 0::u2 8::sq u2 0 8 (us 3)) K24 bel fun u3 w3 D bel=>?_
    have E3_0:=D.q 0
    clear D
    exact wp_ret (rt rfl E3_0 (wsign_0 c1) bel)
 ·
  rcases Bool.eq_false_or_eq_true (decide (r = RW.mk false ⟨#[]⟩)) with c25 | c25
  ·
   have dc25:=of_decide_eq_true c25
   rcases Bool.eq_false_or_eq_true (r.n) with c26 | c26
   ·
    refine gs 2 (Amb Z0 W) fun _ K27=>?_
    refine .bx rfl (fun H=>H.v 0 (rwV r)) ?_
    refine .mc rfl ?_
    refine .dk (fun u=>rwV r::u 0::u 1::us 12) K27 bel fun u1 w1 D bel=>?_
    obtain ⟨b28,E1_0,A28,B28⟩:=D.nw 0
    have E1_1:=D.q 1
    clear D
    refine wp_seq_k fun _ K29=>?_
    refine wp_block ?_
    refine gs 9 (Amb Z0 W) fun _ K30=>?_
    refine .lr rfl 1 E1_0 B28 ?_
    refine .cK rfl Tryz.func142 (fun H=>⟨_,ar1 (H.g 4 0),wCheck _⟩) ?_
    refine .e rfl (V:=.bool false) (fun H=>x_cm (H.g 5 1) (H.c _) c1) ?_
    refine .mv rfl 2 ?_
    refine .lr rfl 1 E1_0 B28 ?_ (hg:=gq 3 rfl)
    refine .e rfl (V:=.agg zW) (fun H=>by clear H; go_simp) ?_ (hg:=gq 3 rfl)
    refine .e rfl (V:=.bool true) (fun H=>ex_eql_whole (r:=r) (q:=RW.mk false ⟨#[]⟩) _ _ rfl (H.g 8 4) (H.g 9 5) (rfl.trans c25)) ?_ (hg:=gq 3 rfl)
    refine .e rfl (fun H=>x_pkF (H.g 7 3) (H.g 10 6)) ?_
    refine .mv rfl 7 ?_
    refine .dk (fun u=>rwV r::u1 0::u1 1::u 8::sq u 0 8 (us 3)) K30 bel fun u2 w2 D bel=>?_
    have E2_8:=D.q 8
    replace B28:=D.k B28
    clear D
    refine wp_cond_true (by exact E2_8) ?_
    refine gs 1 (Amb Z0 W) fun _ K31=>?_
    refine .mc rfl ?_
    refine .dk (fun u=>rwV r::u1 0::u 0::u2 8::sq u2 0 8 (us 3)) K31 bel fun u3 w3 D bel=>?_
    have E3_0:=D.q 0
    clear D
    exact wp_ret (rt rfl E3_0 (wsign_1 dc25) bel)
   ·
    refine gs 2 (Amb Z0 W) fun _ K32=>?_
    refine .bx rfl (fun H=>H.v 0 (rwV r)) ?_
    refine .mc rfl ?_
    refine .dk (fun u=>rwV r::u 0::u 1::us 12) K32 bel fun u1 w1 D bel=>?_
    obtain ⟨b33,E1_0,A33,B33⟩:=D.nw 0
    have E1_1:=D.q 1
    clear D
    refine wp_seq_k fun _ K34=>?_
    refine wp_block ?_
    refine gs 9 (Amb Z0 W) fun _ K35=>?_
    refine .lr rfl 1 E1_0 B33 ?_
    refine .cK rfl Tryz.func142 (fun H=>⟨_,ar1 (H.g 4 0),wCheck _⟩) ?_
    refine .e rfl (V:=.bool false) (fun H=>x_cm (H.g 5 1) (H.c _) c1) ?_
    refine .mv rfl 2 ?_
    refine .lr rfl 1 E1_0 B33 ?_ (hg:=gq 3 rfl)
    refine .e rfl (V:=.agg zW) (fun H=>by clear H; go_simp) ?_ (hg:=gq 3 rfl)
    refine .e rfl (V:=.bool true) (fun H=>ex_eql_whole (r:=r) (q:=RW.mk false ⟨#[]⟩) _ _ rfl (H.g 8 4) (H.g 9 5) (rfl.trans c25)) ?_ (hg:=gq 3 rfl)
    refine .e rfl (fun H=>x_pkF (H.g 7 3) (H.g 10 6)) ?_
    refine .mv rfl 7 ?_
    refine .dk (fun u=>rwV r::u1 0::u1 1::u 8::sq u 0 8 (us 3)) K35 bel fun u2 w2 D bel=>?_
    have E2_8:=D.q 8
    replace B33:=D.k B33
    clear D
    refine wp_cond_true (by exact E2_8) ?_
    refine gs 1 (Amb Z0 W) fun _ K36=>?_
    refine .mc rfl ?_
    refine .dk (fun u=>rwV r::u1 0::u 0::u2 8::sq u2 0 8 (us 3)) K36 bel fun u3 w3 D bel=>?_
    have E3_0:=D.q 0
    clear D
    exact wp_ret (rt rfl E3_0 (wsign_1 dc25) bel)
  ·
   have dc25:=of_decide_eq_false c25
   rcases Bool.eq_false_or_eq_true (r.n) with c37 | c37
   ·
    refine gs 2 (Amb Z0 W) fun _ K38=>?_
    refine .bx rfl (fun H=>H.v 0 (rwV r)) ?_
    refine .mc rfl ?_
    refine .dk (fun u=>rwV r::u 0::u 1::us 12) K38 bel fun u1 w1 D bel=>?_
    obtain ⟨b39,E1_0,A39,B39⟩:=D.nw 0
    have E1_1:=D.q 1
    clear D
    refine wp_seq_k fun _ K40=>?_
    refine wp_block ?_
    refine gs 9 (Amb Z0 W) fun _ K41=>?_
    refine .lr rfl 1 E1_0 B39 ?_
    refine .cK rfl Tryz.func142 (fun H=>⟨_,ar1 (H.g 4 0),wCheck _⟩) ?_
    refine .e rfl (V:=.bool false) (fun H=>x_cm (H.g 5 1) (H.c _) c1) ?_
    refine .mv rfl 2 ?_
    refine .lr rfl 1 E1_0 B39 ?_ (hg:=gq 3 rfl)
    refine .e rfl (V:=.agg zW) (fun H=>by clear H; go_simp) ?_ (hg:=gq 3 rfl)
    refine .e rfl (V:=.bool false) (fun H=>ex_eql_whole (r:=r) (q:=RW.mk false ⟨#[]⟩) _ _ rfl (H.g 8 4) (H.g 9 5) (rfl.trans c25)) ?_ (hg:=gq 3 rfl)
    refine .e rfl (fun H=>x_pkF (H.g 7 3) (H.g 10 6)) ?_
    refine .mv rfl 7 ?_
    refine .dk (fun u=>rwV r::u1 0::u1 1::u 8::sq u 0 8 (us 3)) K41 bel fun u2 w2 D bel=>?_
    have E2_8:=D.q 8
    replace B39:=D.k B39
    clear D
    refine wp_cond_false (by exact E2_8) ?_
    refine gs 3 (Amb Z0 W) fun _ K42=>?_
    refine .fz rfl 1 0 E1_0 ?_
    refine .e rfl (V:=.bool true) (fun H=>by have e13:=H.g 13 0; have c1:=cell_of (off:=0) (H.b B39) rfl; have k_:=c37; clear H; go_simp <;> first | (simp_all; done) | omega | exact len_gt z0_) ?_
    refine .mv rfl 1 ?_
    refine .dk (fun u=>rwV r::u1 0::u1 1::u2 8::sq u2 0 8 (u 2::u 0::u 1::[])) K42 bel fun u3 w3 D bel=>?_
    have E3_2:=D.q 2
    clear D
    refine wp_cond_true (by exact E3_2) ?_
    refine gs 1 (Amb Z0 W) fun _ K43=>?_
    refine .mc rfl ?_
    refine .dk (fun u=>rwV r::u1 0::u 0::u2 8::sq u2 0 8 (u3 2::u3 0::u3 1::[])) K43 bel fun u4 w4 D bel=>?_
    have E4_0:=D.q 0
    clear D
    exact wp_ret (rt rfl E4_0 (wsign_2 c1 dc25 c37) bel)
   ·
    refine gs 2 (Amb Z0 W) fun _ K44=>?_
    refine .bx rfl (fun H=>H.v 0 (rwV r)) ?_
    refine .mc rfl ?_
    refine .dk (fun u=>rwV r::u 0::u 1::us 12) K44 bel fun u1 w1 D bel=>?_
    obtain ⟨b45,E1_0,A45,B45⟩:=D.nw 0
    have E1_1:=D.q 1
    clear D
    refine wp_seq_k fun _ K46=>?_
    refine wp_block ?_
    refine gs 9 (Amb Z0 W) fun _ K47=>?_
    refine .lr rfl 1 E1_0 B45 ?_
    refine .cK rfl Tryz.func142 (fun H=>⟨_,ar1 (H.g 4 0),wCheck _⟩) ?_
    refine .e rfl (V:=.bool false) (fun H=>x_cm (H.g 5 1) (H.c _) c1) ?_
    refine .mv rfl 2 ?_
    refine .lr rfl 1 E1_0 B45 ?_ (hg:=gq 3 rfl)
    refine .e rfl (V:=.agg zW) (fun H=>by clear H; go_simp) ?_ (hg:=gq 3 rfl)
    refine .e rfl (V:=.bool false) (fun H=>ex_eql_whole (r:=r) (q:=RW.mk false ⟨#[]⟩) _ _ rfl (H.g 8 4) (H.g 9 5) (rfl.trans c25)) ?_ (hg:=gq 3 rfl)
    refine .e rfl (fun H=>x_pkF (H.g 7 3) (H.g 10 6)) ?_
    refine .mv rfl 7 ?_
    refine .dk (fun u=>rwV r::u1 0::u1 1::u 8::sq u 0 8 (us 3)) K47 bel fun u2 w2 D bel=>?_
    have E2_8:=D.q 8
    replace B45:=D.k B45
    clear D
    refine wp_cond_false (by exact E2_8) ?_
    refine gs 3 (Amb Z0 W) fun _ K48=>?_
    refine .fz rfl 1 0 E1_0 ?_
    refine .e rfl (V:=.bool false) (fun H=>by have e13:=H.g 13 0; have c1:=cell_of (off:=0) (H.b B45) rfl; have k_:=c37; clear H; go_simp <;> first | (simp_all; done) | omega | exact len_gt z0_) ?_
    refine .mv rfl 1 ?_
    refine .dk (fun u=>rwV r::u1 0::u1 1::u2 8::sq u2 0 8 (u 2::u 0::u 1::[])) K48 bel fun u3 w3 D bel=>?_
    have E3_2:=D.q 2
    clear D
    refine wp_cond_false (by exact E3_2) ?_
    refine wp_skip ?_
    refine inBlock_normal ?_
    refine K46 _ _ ?_
    refine gs 1 (Amb Z0 W) fun _ K49=>?_
    refine .mc rfl ?_
    refine .dk (fun u=>rwV r::u1 0::u 0::u2 8::sq u2 0 8 (u3 2::u3 0::u3 1::[])) K49 bel fun u4 w4 D bel=>?_
    have E4_0:=D.q 0
    clear D
    exact wp_ret (rt rfl E4_0 (wsign_3 c1 dc25 c37) bel)
theorem wTold {v0:Value} (x:Int) (t0:(IntP x).p S v0 W) (p0:bl x.natAbs ≤ 131072) (p1:hi x ≤ 1099511627776) :
  Calls Tryz.prog 144 #[v0] W (RetV (.tuple #[.agg #[.bool (decide (x < 0)),.string (bS x.natAbs)],.int .i64 0]) W):=by
 obtain ⟨b1,ob1,rfl,L1,F1⟩:=IntP.elim t0
 replace L1:Amb S W b1:=.inl L1
 have bel:=b0 W
 go_enter Tryz.func144,Tryz.ntmps144
 refine gs 2 (Amb S W) fun _ K2=>?_
 refine .al rfl zW ?_
 refine .mc rfl ?_
 refine .dk (fun u=>.pointer (some ⟨b1,ob1,none⟩)::U::u 0::u 1::us 11) K2 bel fun u1 w1 D bel=>?_
 obtain ⟨b3,E1_0,A3,B3⟩:=D.nw 0
 have E1_1:=D.q 1
 have N1_3:=D.n1 0 (IntP.lt F1) E1_0
 replace F1:=D.o L1 F1
 clear D
 refine wp_seq_k fun _ K4=>?_
 refine gs 3 (Amb S W) fun _ K5=>?_
 refine .mz rfl 0 (V:=.pointer (some ⟨b1,ob1,none⟩)) rfl ?_
 refine .cK rfl Tryz.func183 (fun H=>⟨_,ar1 (H.g 4 0),bBitLen _ (VP.any _ (H.was _ [] (VP.at F1 L1))) (by omega)⟩) ?_
 refine .e rfl (V:=.bool (decide (131072 < ((bl x.natAbs:Nat):Int)))) (fun H=>x_cmp (H.g 5 1) (H.c _)) ?_
 refine .dk (fun u=>.pointer (some ⟨b1,ob1,none⟩)::U::u1 0::u1 1::sq u 0 3 (us 8)) K5 bel fun u2 w2 D bel=>?_
 have E2_2:=D.q 2
 replace B3:=D.k B3
 replace F1:=D.o L1 F1
 clear D
 refine wp_cond_false ((E2_2).trans (congrArg Value.bool (show (decide (131072 < ((bl x.natAbs:Nat):Int))) = false from decide_eq_false (by omega)))) ?_
 refine wp_skip ?_
 refine K4 _ _ ?_
 refine gs1 9 (Amb S W) 7 B3 fun _ K6=>?_
 refine .mz rfl 0 (V:=.pointer (some ⟨b1,ob1,none⟩)) rfl ?_
 refine .cK rfl Tryz.func168 (fun H=>⟨_,ar1 (H.g 8 0),bSign _ (VP.any _ (H.was _ [] (VP.at F1 L1)))⟩) ?_
 refine .e rfl (V:=.bool (decide (x.sign < 0))) (fun H=>x_cmp (H.g 9 1) (H.c _)) ?_
 refine .mz rfl 0 (V:=.pointer (some ⟨b1,ob1,none⟩)) rfl ?_
 refine .cR rfl [] Tryz.func171 (fun H=>⟨_,ar1 (H.g 11 3),bBytes _ (H.was _ [] (VP.at F1 L1)) (by omega)⟩) ?_
 refine Go2.eq (i:=5) rfl (G0 rfl) (V:=.string (bS x.natAbs)) (by intro u μ ρ H; have e12:=H.r 12 4; exact ex_conv rfl e12 (Byts.str (SV.any (H.a 4 rfl)))) ?_
 refine .e rfl (V:=.agg #[.bool (decide (x.sign < 0)),.string (bS x.natAbs)]) (fun H=>by have e10:=H.g 10 2; have e13:=H.g 13 5; clear H; go_simp) ?_
 refine .s1 rfl B3 (fun H=>⟨H.z 2 E1_0,H.g 14 6⟩) ?_
 refine .mc rfl ?_
 refine .d1 (fun u=>.pointer (some ⟨b1,ob1,none⟩)::U::u1 0::u 8::sq u2 0 3 (U::sq u 0 7 [])) K6 bel A3 fun u3 w3 D bel=>?_
 have E3_8:=D.q 8
 replace B3:=D.ol 7
 clear D
 refine wp_ret ?_
 refine ret_ok rfl (by exact results_mix rfl (by exact E1_0) B3 Tryz.underlying26 rfl (by kernel_rfl) (by exact E3_8)) (RetV.mk ?_ bel)
 exact congrArg Ending.returned (told_w x)
theorem wOf (n:Int) (p0:-9223372036854775808 ≤ n) (p1:n ≤ 9223372036854775807) :
  Calls Tryz.prog 80 #[.int .i64 n] W (RetV (wV n) W):=by
 have n0:=hi_i64 p0 p1
 have n1:=hi_bl n
 have bel:=b0 W
 go_enter Tryz.func80,Tryz.ntmps80
 refine gs 1 (Amb Z0 W) fun _ K1=>?_
 refine .al rfl zW ?_
 refine .dk (fun u=>.int .i64 n::U::u 0::us 9) K1 bel fun u1 w1 D bel=>?_
 obtain ⟨b2,E1_0,A2,B2⟩:=D.nw 0
 clear D
 refine gs 9 (Amb Z0 W) fun _ K3=>?_
 refine .mz rfl 0 (V:=.int .i64 n) rfl ?_
 refine .cR rfl [] Tryz.func130 (fun H=>⟨_,ar1 (H.g 6 0),bNewInt _ (by omega) (by omega)⟩) ?_
 refine .cK rfl Tryz.func144 (fun H=>⟨_,ar1 (H.r 7 1),wTold _ (IntO.p (SV.any (H.a 1 rfl))) (by omega) (by omega)⟩) ?_
 refine .mv rfl 2 ?_
 refine .e rfl (V:=wV n) (fun H=>x_ex (H.g 5 3)) ?_
 refine .e rfl (V:=.int .i64 0) (fun H=>x_ex (H.g 5 3)) ?_
 refine .al rfl zW ?_
 refine .so rfl 6 (fun H=>⟨H.r 3 6,H.g 9 4⟩) ?_
 refine .mv rfl 5 ?_
 refine .dk (fun u=>.int .i64 n::U::u1 0::u 6::u 8::u 3::sq u 0 3 (u 4::u 5::U::[])) K3 bel fun u2 w2 D bel=>?_
 obtain ⟨b4,E2_6,A4,B4⟩:=D.st 7
 have N2_4:=D.n1 6 (lt_of B2) E2_6
 replace B2:=D.k B2
 clear D
 refine gs1 2 (Amb Z0 W) 1 B2 fun _ K5=>?_
 refine .e rfl (fun H=>x_ldr (H.z 3 E2_6) (H.b1 B4 N2_4)) ?_
 refine .s1 rfl B2 (fun H=>⟨H.z 2 E1_0,H.g 11 0⟩) ?_
 refine .d1 (fun u=>.int .i64 n::U::u1 0::u2 6::u2 8::u2 3::sq u2 0 3 (u2 4::u2 5::u 0::[])) K5 bel A2 fun u3 w3 D bel=>?_
 replace B2:=D.ol 1
 clear D
 exact wp_ret (rr rfl E1_0 B2 rfl bel)
theorem frShort (r:RW) :
  Calls Tryz.prog 163 #[rwV r] W (RetV (.bool (wshort r)) W):=by
 have bel:=b0 W
 go_enter Tryz.func163,Tryz.ntmps163
 refine gs 2 (Amb Z0 W) fun _ K1=>?_
 refine .bx rfl (fun H=>H.v 0 (rwV r)) ?_
 refine .mc rfl ?_
 refine .dk (fun u=>rwV r::u 0::u 1::us 4) K1 bel fun u1 w1 D bel=>?_
 obtain ⟨b2,E1_0,A2,B2⟩:=D.nw 0
 have E1_1:=D.q 1
 clear D
 refine gs 5 (Amb Z0 W) fun _ K3=>?_
 refine .fz rfl 1 1 E1_0 ?_
 refine .lc rfl 0 B2 ?_ (V:=.string r.s)
 refine .e rfl (V:=.int .i64 ((r.s.size:Nat):Int)) (fun H=>by have e4:=H.g 4 1; clear H; go_simp) ?_
 refine .e rfl (V:=.bool (decide (((r.s.size:Nat):Int) ≤ 1024))) (fun H=>x_cmp (H.g 5 2) (H.c _)) ?_
 refine .mv rfl 3 ?_
 refine .dk (fun u=>rwV r::u1 0::u 4::sq u 0 4 []) K3 bel fun u2 w2 D bel=>?_
 have E2_4:=D.q 4
 clear D
 exact wp_ret (rt rfl E2_4 (wshort_b r) bel)
theorem frInt (n:Int) (p0:-9223372036854775808 ≤ n) (p1:n ≤ 9223372036854775807) :
  Calls Tryz.prog 47 #[.int .i64 n] W (RetV (fV (n:Rat)) W):=by
 have n0:=hi_i64 p0 p1
 have n1:=ht_int_le n
 have bel:=b0 W
 go_enter Tryz.func47,Tryz.ntmps47
 refine gs 1 (Amb Z0 W) fun _ K1=>?_
 refine .al rfl zF ?_
 refine .dk (fun u=>.int .i64 n::U::u 0::us 4) K1 bel fun u1 w1 D bel=>?_
 obtain ⟨b2,E1_0,A2,B2⟩:=D.nw 0
 clear D
 refine gs1 5 (Amb Z0 W) 4 B2 fun _ K3=>?_
 refine .al rfl zQ ?_
 refine .mz rfl 0 (V:=.int .i64 n) rfl ?_
 refine .cO rfl 0 Tryz.func103 (fun H h0 hz=>⟨_,ar2 (H.p 3 0 h0) (H.g 4 1),qSetInt64 _ (RatBlk.of hz) (by omega) (by omega)⟩) ?_
 refine .cK rfl Tryz.func102 (fun H=>⟨_,ar1 (H.r 5 2),frTold _ (Own.any (H.a 2 rfl)) (by omega)⟩) ?_
 refine .s1 rfl B2 (fun H=>⟨H.z 2 E1_0,H.g 6 3⟩) ?_
 refine .d1 (fun u=>.int .i64 n::U::u1 0::sq u 0 4 []) K3 bel A2 fun u2 w2 D bel=>?_
 replace B2:=D.ol 4
 clear D
 exact wp_ret (rr rfl E1_0 B2 rfl bel)
theorem frRatW (g:Int × Int) (p0:hi g.1 ≤ 17179869184) (p1:hi g.2 ≤ 17179869184) (p2:g.2 ≠ 0) :
  Calls Tryz.prog 135 #[wwV g] W (Ret (RatP (Rat.divInt g.1 g.2)) S W):=by
 have bel:=b0 W
 go_enter Tryz.func135,Tryz.ntmps135
 refine gs 2 (Amb S W) fun _ K1=>?_
 refine .bx rfl (fun H=>H.v 0 (wwV g)) ?_
 refine .mc rfl ?_
 refine .dk (fun u=>wwV g::u 0::u 1::us 8) K1 bel fun u1 w1 D bel=>?_
 obtain ⟨b2,E1_0,A2,B2⟩:=D.nw 0
 have E1_1:=D.q 1
 clear D
 refine gd 9 (Amb S W) fun _ K3=>?_
 refine .al rfl zQ ?_
 refine .fz rfl 1 0 E1_0 ?_
 refine .lp rfl 1 (wC g.1) B2 ?_
 refine .cR rfl [] Tryz.func180 (fun H=>⟨_,ar1 (H.g 5 2),frNumber _ (by first | omega | exact p2)⟩) ?_
 refine .fz rfl 1 2 E1_0 ?_
 refine .lp rfl 4 (wC g.2) B2 ?_
 refine .cR rfl [] Tryz.func180 (fun H=>⟨_,ar1 (H.g 8 5),frNumber _ (by first | omega | exact p2)⟩) ?_
 refine .cO rfl 0 Tryz.func160 (fun H h0 hz=>⟨_,ar3 (H.p 3 0 h0) (H.r 6 3) (H.r 9 6),qSetFrac _ _ (RatBlk.of hz) (IntO.p (SV.any (H.a 3 rfl))) (IntO.p (SV.any (H.a 6 rfl))) (by first | omega | exact p2) (by first | omega | exact p2)⟩) ?_
 refine .mo rfl 7 ?_
 refine .dk (fun u=>wwV g::u1 0::u 8::sq u 0 8 []) K3 bel fun u2 w2 D bel=>?_
 obtain ⟨b4,E2_8,A4,F4⟩:=D.ow 8
 have L4:Amb S W b4:=.inr A4
 clear D
 refine wp_ret ?_
 refine ret_ok rfl (by exact results_tmp' rfl (by exact E2_8)) ⟨_,rfl,?_,bel⟩
 exact (VP.at F4 L4)
theorem frMay0 (r:RF) (p0:((werr r.a) != 0) = true) :
  Calls Tryz.prog 100 #[rfV r] W (RetV (.bool false) W):=by
 have bel:=b0 W
 go_enter Tryz.func100,Tryz.ntmps100
 refine gs 2 (Amb Z0 W) fun _ K1=>?_
 refine .bx rfl (fun H=>H.v 0 (rfV r)) ?_
 refine .mc rfl ?_
 refine .dk (fun u=>rfV r::u 0::u 1::us 33) K1 bel fun u1 w1 D bel=>?_
 obtain ⟨b2,E1_0,A2,B2⟩:=D.nw 0
 have E1_1:=D.q 1
 clear D
 refine wp_seq_k fun _ K3=>?_
 refine gs 28 (Amb Z0 W) fun _ K4=>?_
 refine .fz rfl 1 0 E1_0 ?_
 refine .lp rfl 0 (rwC r.a) B2 ?_
 refine .cK rfl Tryz.func142 (fun H=>⟨_,ar1 (H.g 4 1),wCheck _⟩) ?_
 refine .e rfl (V:=.bool true) (fun H=>x_cm (H.g 5 2) (H.c _) p0) ?_
 refine .mv rfl 3 ?_
 refine .sk rfl 4 ?_
 refine .sk rfl 4 ?_
 refine .sk rfl 4 ?_
 refine .sk rfl 4 ?_
 refine .e rfl (fun H=>x_pkT (H.g 7 4) (H.c _)) ?_
 refine .mv rfl 9 ?_
 refine .sk rfl 10 ?_
 refine .sk rfl 10 ?_
 refine .sk rfl 10 ?_
 refine .sk rfl 10 ?_
 refine .e rfl (fun H=>x_pkT (H.g 13 10) (H.c _)) ?_
 refine .mv rfl 15 ?_
 refine .sk rfl 16 ?_
 refine .sk rfl 16 ?_
 refine .sk rfl 16 ?_
 refine .sk rfl 16 ?_
 refine .e rfl (fun H=>x_pkT (H.g 19 16) (H.c _)) ?_
 refine .mv rfl 21 ?_
 refine .sk rfl 22 ?_
 refine .sk rfl 22 ?_
 refine .sk rfl 22 ?_
 refine .sk rfl 22 ?_
 refine .e rfl (fun H=>x_pkT (H.g 25 22) (H.c _)) ?_
 refine .dk (fun u=>rfV r::u1 0::u1 1::sq u 0 28 (us 5)) K4 bel fun u2 w2 D bel=>?_
 have E2_27:=D.q 27
 replace B2:=D.k B2
 clear D
 refine wp_cond_true (by exact E2_27) ?_
 refine gs 1 (Amb Z0 W) fun _ K5=>?_
 refine .mc rfl ?_
 refine .dk (fun u=>rfV r::u1 0::u 0::sq u2 0 28 (us 5)) K5 bel fun u3 w3 D bel=>?_
 have E3_0:=D.q 0
 clear D
 exact wp_ret (rt rfl E3_0 rfl bel)
theorem frMay1 (r:RF) (p0:((werr r.a) != 0) = false) (p1:((werr r.b) != 0) = true) :
  Calls Tryz.prog 100 #[rfV r] W (RetV (.bool false) W):=by
 have bel:=b0 W
 go_enter Tryz.func100,Tryz.ntmps100
 refine gs 2 (Amb Z0 W) fun _ K1=>?_
 refine .bx rfl (fun H=>H.v 0 (rfV r)) ?_
 refine .mc rfl ?_
 refine .dk (fun u=>rfV r::u 0::u 1::us 33) K1 bel fun u1 w1 D bel=>?_
 obtain ⟨b2,E1_0,A2,B2⟩:=D.nw 0
 have E1_1:=D.q 1
 clear D
 refine wp_seq_k fun _ K3=>?_
 refine gs 28 (Amb Z0 W) fun _ K4=>?_
 refine .fz rfl 1 0 E1_0 ?_
 refine .lp rfl 0 (rwC r.a) B2 ?_
 refine .cK rfl Tryz.func142 (fun H=>⟨_,ar1 (H.g 4 1),wCheck _⟩) ?_
 refine .e rfl (V:=.bool false) (fun H=>x_cm (H.g 5 2) (H.c _) p0) ?_
 refine .mv rfl 3 ?_
 refine .fz rfl 1 2 E1_0 ?_ (hg:=gq 4 rfl)
 refine .lp rfl 5 (rwC r.b) B2 ?_ (hg:=gq 4 rfl)
 refine .cK rfl Tryz.func142 (fun H=>⟨_,ar1 (H.g 9 6),wCheck _⟩) ?_ (hg:=gq 4 rfl)
 refine .e rfl (V:=.bool true) (fun H=>x_cm (H.g 10 7) (H.c _) p1) ?_ (hg:=gq 4 rfl)
 refine .e rfl (fun H=>x_pkF (H.g 7 4) (H.g 11 8)) ?_
 refine .mv rfl 9 ?_
 refine .sk rfl 10 ?_
 refine .sk rfl 10 ?_
 refine .sk rfl 10 ?_
 refine .sk rfl 10 ?_
 refine .e rfl (fun H=>x_pkT (H.g 13 10) (H.c _)) ?_
 refine .mv rfl 15 ?_
 refine .sk rfl 16 ?_
 refine .sk rfl 16 ?_
 refine .sk rfl 16 ?_
 refine .sk rfl 16 ?_
 refine .e rfl (fun H=>x_pkT (H.g 19 16) (H.c _)) ?_
 refine .mv rfl 21 ?_
 refine .sk rfl 22 ?_
 refine .sk rfl 22 ?_
 refine .sk rfl 22 ?_
 refine .sk rfl 22 ?_
 refine .e rfl (fun H=>x_pkT (H.g 25 22) (H.c _)) ?_
 refine .dk (fun u=>rfV r::u1 0::u1 1::sq u 0 28 (us 5)) K4 bel fun u2 w2 D bel=>?_
 have E2_27:=D.q 27
 replace B2:=D.k B2
 clear D
 refine wp_cond_true (by exact E2_27) ?_
 refine gs 1 (Amb Z0 W) fun _ K5=>?_
 refine .mc rfl ?_
 refine .dk (fun u=>rfV r::u1 0::u 0::sq u2 0 28 (us 5)) K5 bel fun u3 w3 D bel=>?_
 have E3_0:=D.q 0
 clear D
 exact wp_ret (rt rfl E3_0 rfl bel)
theorem frMay2 (r:RF) (p0:((werr r.a) != 0) = false) (p1:((werr r.b) != 0) = false) (p2:(wshort r.a) = false) :
  Calls Tryz.prog 100 #[rfV r] W (RetV (.bool false) W):=by
 have bel:=b0 W
 go_enter Tryz.func100,Tryz.ntmps100
 refine gs 2 (Amb Z0 W) fun _ K1=>?_
 refine .bx rfl (fun H=>H.v 0 (rfV r)) ?_
 refine .mc rfl ?_
 refine .dk (fun u=>rfV r::u 0::u 1::us 33) K1 bel fun u1 w1 D bel=>?_
 obtain ⟨b2,E1_0,A2,B2⟩:=D.nw 0
 have E1_1:=D.q 1
 clear D
 refine wp_seq_k fun _ K3=>?_
 refine gs 28 (Amb Z0 W) fun _ K4=>?_
 refine .fz rfl 1 0 E1_0 ?_
 refine .lp rfl 0 (rwC r.a) B2 ?_
 refine .cK rfl Tryz.func142 (fun H=>⟨_,ar1 (H.g 4 1),wCheck _⟩) ?_
 refine .e rfl (V:=.bool false) (fun H=>x_cm (H.g 5 2) (H.c _) p0) ?_
 refine .mv rfl 3 ?_
 refine .fz rfl 1 2 E1_0 ?_ (hg:=gq 4 rfl)
 refine .lp rfl 5 (rwC r.b) B2 ?_ (hg:=gq 4 rfl)
 refine .cK rfl Tryz.func142 (fun H=>⟨_,ar1 (H.g 9 6),wCheck _⟩) ?_ (hg:=gq 4 rfl)
 refine .e rfl (V:=.bool false) (fun H=>x_cm (H.g 10 7) (H.c _) p1) ?_ (hg:=gq 4 rfl)
 refine .e rfl (fun H=>x_pkF (H.g 7 4) (H.g 11 8)) ?_
 refine .mv rfl 9 ?_
 refine .fz rfl 1 0 E1_0 ?_ (hg:=gq 10 rfl)
 refine .lp rfl 11 (rwC r.a) B2 ?_ (hg:=gq 10 rfl)
 refine .cK rfl (V:=.bool false) Tryz.func163 (fun H=>⟨_,ar1 (H.g 15 12),reV (congrArg Value.bool p2) (frShort _)⟩) ?_ (hg:=gq 10 rfl)
 refine .e rfl (V:=.bool true) (fun H=>x_not (H.g 16 13)) ?_ (hg:=gq 10 rfl)
 refine .e rfl (fun H=>x_pkF (H.g 13 10) (H.g 17 14)) ?_
 refine .mv rfl 15 ?_
 refine .sk rfl 16 ?_
 refine .sk rfl 16 ?_
 refine .sk rfl 16 ?_
 refine .sk rfl 16 ?_
 refine .e rfl (fun H=>x_pkT (H.g 19 16) (H.c _)) ?_
 refine .mv rfl 21 ?_
 refine .sk rfl 22 ?_
 refine .sk rfl 22 ?_
 refine .sk rfl 22 ?_
 refine .sk rfl 22 ?_
 refine .e rfl (fun H=>x_pkT (H.g 25 22) (H.c _)) ?_
 refine .dk (fun u=>rfV r::u1 0::u1 1::sq u 0 28 (us 5)) K4 bel fun u2 w2 D bel=>?_
 have E2_27:=D.q 27
 replace B2:=D.k B2
 clear D
 refine wp_cond_true (by exact E2_27) ?_
 refine gs 1 (Amb Z0 W) fun _ K5=>?_
 refine .mc rfl ?_
 refine .dk (fun u=>rfV r::u1 0::u 0::sq u2 0 28 (us 5)) K5 bel fun u3 w3 D bel=>?_
 have E3_0:=D.q 0
 clear D
 exact wp_ret (rt rfl E3_0 rfl bel)
theorem frMay3 (r:RF) (p0:((werr r.a) != 0) = false) (p1:((werr r.b) != 0) = false) (p2:(wshort r.a) = true) (p3:(wshort r.b) = false) :
  Calls Tryz.prog 100 #[rfV r] W (RetV (.bool false) W):=by
 have bel:=b0 W
 go_enter Tryz.func100,Tryz.ntmps100
 refine gs 2 (Amb Z0 W) fun _ K1=>?_
 refine .bx rfl (fun H=>H.v 0 (rfV r)) ?_
 refine .mc rfl ?_
 refine .dk (fun u=>rfV r::u 0::u 1::us 33) K1 bel fun u1 w1 D bel=>?_
 obtain ⟨b2,E1_0,A2,B2⟩:=D.nw 0
 have E1_1:=D.q 1
 clear D
 refine wp_seq_k fun _ K3=>?_
 refine gs 28 (Amb Z0 W) fun _ K4=>?_
 refine .fz rfl 1 0 E1_0 ?_
 refine .lp rfl 0 (rwC r.a) B2 ?_
 refine .cK rfl Tryz.func142 (fun H=>⟨_,ar1 (H.g 4 1),wCheck _⟩) ?_
 refine .e rfl (V:=.bool false) (fun H=>x_cm (H.g 5 2) (H.c _) p0) ?_
 refine .mv rfl 3 ?_
 refine .fz rfl 1 2 E1_0 ?_ (hg:=gq 4 rfl)
 refine .lp rfl 5 (rwC r.b) B2 ?_ (hg:=gq 4 rfl)
 refine .cK rfl Tryz.func142 (fun H=>⟨_,ar1 (H.g 9 6),wCheck _⟩) ?_ (hg:=gq 4 rfl)
 refine .e rfl (V:=.bool false) (fun H=>x_cm (H.g 10 7) (H.c _) p1) ?_ (hg:=gq 4 rfl)
 refine .e rfl (fun H=>x_pkF (H.g 7 4) (H.g 11 8)) ?_
 refine .mv rfl 9 ?_
 refine .fz rfl 1 0 E1_0 ?_ (hg:=gq 10 rfl)
 refine .lp rfl 11 (rwC r.a) B2 ?_ (hg:=gq 10 rfl)
 refine .cK rfl (V:=.bool true) Tryz.func163 (fun H=>⟨_,ar1 (H.g 15 12),reV (congrArg Value.bool p2) (frShort _)⟩) ?_ (hg:=gq 10 rfl)
 refine .e rfl (V:=.bool false) (fun H=>x_not (H.g 16 13)) ?_ (hg:=gq 10 rfl)
 refine .e rfl (fun H=>x_pkF (H.g 13 10) (H.g 17 14)) ?_
 refine .mv rfl 15 ?_
 refine .fz rfl 1 2 E1_0 ?_ (hg:=gq 16 rfl)
 refine .lp rfl 17 (rwC r.b) B2 ?_ (hg:=gq 16 rfl)
 refine .cK rfl (V:=.bool false) Tryz.func163 (fun H=>⟨_,ar1 (H.g 21 18),reV (congrArg Value.bool p3) (frShort _)⟩) ?_ (hg:=gq 16 rfl)
 refine .e rfl (V:=.bool true) (fun H=>x_not (H.g 22 19)) ?_ (hg:=gq 16 rfl)
 refine .e rfl (fun H=>x_pkF (H.g 19 16) (H.g 23 20)) ?_
 refine .mv rfl 21 ?_
 refine .sk rfl 22 ?_
 refine .sk rfl 22 ?_
 refine .sk rfl 22 ?_
 refine .sk rfl 22 ?_
 refine .e rfl (fun H=>x_pkT (H.g 25 22) (H.c _)) ?_
 refine .dk (fun u=>rfV r::u1 0::u1 1::sq u 0 28 (us 5)) K4 bel fun u2 w2 D bel=>?_
 have E2_27:=D.q 27
 replace B2:=D.k B2
 clear D
 refine wp_cond_true (by exact E2_27) ?_
 refine gs 1 (Amb Z0 W) fun _ K5=>?_
 refine .mc rfl ?_
 refine .dk (fun u=>rfV r::u1 0::u 0::sq u2 0 28 (us 5)) K5 bel fun u3 w3 D bel=>?_
 have E3_0:=D.q 0
 clear D
 exact wp_ret (rt rfl E3_0 rfl bel)
theorem frMay4 (r:RF) (p0:((werr r.a) != 0) = false) (p1:((werr r.b) != 0) = false) (p2:(wshort r.a) = true) (p3:(wshort r.b) = true) (p4:(decide ((wsign r.b) ≤ 0)) = true) :
  Calls Tryz.prog 100 #[rfV r] W (RetV (.bool false) W):=by
 have bel:=b0 W
 go_enter Tryz.func100,Tryz.ntmps100
 refine gs 2 (Amb Z0 W) fun _ K1=>?_
 refine .bx rfl (fun H=>H.v 0 (rfV r)) ?_
 refine .mc rfl ?_
 refine .dk (fun u=>rfV r::u 0::u 1::us 33) K1 bel fun u1 w1 D bel=>?_
 obtain ⟨b2,E1_0,A2,B2⟩:=D.nw 0
 have E1_1:=D.q 1
 clear D
 refine wp_seq_k fun _ K3=>?_
 refine gs 28 (Amb Z0 W) fun _ K4=>?_
 refine .fz rfl 1 0 E1_0 ?_
 refine .lp rfl 0 (rwC r.a) B2 ?_
 refine .cK rfl Tryz.func142 (fun H=>⟨_,ar1 (H.g 4 1),wCheck _⟩) ?_
 refine .e rfl (V:=.bool false) (fun H=>x_cm (H.g 5 2) (H.c _) p0) ?_
 refine .mv rfl 3 ?_
 refine .fz rfl 1 2 E1_0 ?_ (hg:=gq 4 rfl)
 refine .lp rfl 5 (rwC r.b) B2 ?_ (hg:=gq 4 rfl)
 refine .cK rfl Tryz.func142 (fun H=>⟨_,ar1 (H.g 9 6),wCheck _⟩) ?_ (hg:=gq 4 rfl)
 refine .e rfl (V:=.bool false) (fun H=>x_cm (H.g 10 7) (H.c _) p1) ?_ (hg:=gq 4 rfl)
 refine .e rfl (fun H=>x_pkF (H.g 7 4) (H.g 11 8)) ?_
 refine .mv rfl 9 ?_
 refine .fz rfl 1 0 E1_0 ?_ (hg:=gq 10 rfl)
 refine .lp rfl 11 (rwC r.a) B2 ?_ (hg:=gq 10 rfl)
 refine .cK rfl (V:=.bool true) Tryz.func163 (fun H=>⟨_,ar1 (H.g 15 12),reV (congrArg Value.bool p2) (frShort _)⟩) ?_ (hg:=gq 10 rfl)
 refine .e rfl (V:=.bool false) (fun H=>x_not (H.g 16 13)) ?_ (hg:=gq 10 rfl)
 refine .e rfl (fun H=>x_pkF (H.g 13 10) (H.g 17 14)) ?_
 refine .mv rfl 15 ?_
 refine .fz rfl 1 2 E1_0 ?_ (hg:=gq 16 rfl)
 refine .lp rfl 17 (rwC r.b) B2 ?_ (hg:=gq 16 rfl)
 refine .cK rfl (V:=.bool true) Tryz.func163 (fun H=>⟨_,ar1 (H.g 21 18),reV (congrArg Value.bool p3) (frShort _)⟩) ?_ (hg:=gq 16 rfl)
 refine .e rfl (V:=.bool false) (fun H=>x_not (H.g 22 19)) ?_ (hg:=gq 16 rfl)
 refine .e rfl (fun H=>x_pkF (H.g 19 16) (H.g 23 20)) ?_
 refine .mv rfl 21 ?_
 refine .fz rfl 1 2 E1_0 ?_ (hg:=gq 22 rfl)
 refine .lp rfl 23 (rwC r.b) B2 ?_ (hg:=gq 22 rfl)
 refine .cK rfl Tryz.func101 (fun H=>⟨_,ar1 (H.g 27 24),wSign _⟩) ?_ (hg:=gq 22 rfl)
 refine .e rfl (V:=.bool true) (fun H=>x_cm (H.g 28 25) (H.c _) p4) ?_ (hg:=gq 22 rfl)
 refine .e rfl (fun H=>x_pkF (H.g 25 22) (H.g 29 26)) ?_
 refine .dk (fun u=>rfV r::u1 0::u1 1::sq u 0 28 (us 5)) K4 bel fun u2 w2 D bel=>?_
 have E2_27:=D.q 27
 replace B2:=D.k B2
 clear D
 refine wp_cond_true (by exact E2_27) ?_
 refine gs 1 (Amb Z0 W) fun _ K5=>?_
 refine .mc rfl ?_
 refine .dk (fun u=>rfV r::u1 0::u 0::sq u2 0 28 (us 5)) K5 bel fun u3 w3 D bel=>?_
 have E3_0:=D.q 0
 clear D
 exact wp_ret (rt rfl E3_0 rfl bel)
theorem frMayC (g:Int × Int) (p0:((werr (rw g.1)) != 0) = false) (p1:((werr (rw g.2)) != 0) = false) (p2:(wshort (rw g.1)) = true) (p3:(wshort (rw g.2)) = true) (p4:(decide ((wsign (rw g.2)) ≤ 0)) = false) (p5:hi g.1 ≤ 17179869184) (p6:hi g.2 ≤ 17179869184) (p7:0 < g.2) :
  Calls Tryz.prog 100 #[wwV g] W (RetV (.bool (decide (rf (Rat.divInt g.1 g.2) = RF.mk (rw g.1) (rw g.2)))) W):=by
 have g0:=ht_divInt (a:=g.1) p7 (Nat.le_refl (max (hi g.1) (hi g.2)))
 have bel:=b0 W
 go_enter Tryz.func100,Tryz.ntmps100
 refine gs 2 (Amb Z0 W) fun _ K1=>?_
 refine .bx rfl (fun H=>H.v 0 (wwV g)) ?_
 refine .mc rfl ?_
 refine .dk (fun u=>wwV g::u 0::u 1::us 33) K1 bel fun u1 w1 D bel=>?_
 obtain ⟨b2,E1_0,A2,B2⟩:=D.nw 0
 have E1_1:=D.q 1
 clear D
 refine wp_seq_k fun _ K3=>?_
 refine gs 28 (Amb Z0 W) fun _ K4=>?_
 refine .fz rfl 1 0 E1_0 ?_
 refine .lp rfl 0 (wC g.1) B2 ?_
 refine .cK rfl Tryz.func142 (fun H=>⟨_,ar1 (H.g 4 1),wCheck (rw g.1)⟩) ?_
 refine .e rfl (V:=.bool false) (fun H=>x_cm (H.g 5 2) (H.c _) p0) ?_
 refine .mv rfl 3 ?_
 refine .fz rfl 1 2 E1_0 ?_ (hg:=gq 4 rfl)
 refine .lp rfl 5 (wC g.2) B2 ?_ (hg:=gq 4 rfl)
 refine .cK rfl Tryz.func142 (fun H=>⟨_,ar1 (H.g 9 6),wCheck (rw g.2)⟩) ?_ (hg:=gq 4 rfl)
 refine .e rfl (V:=.bool false) (fun H=>x_cm (H.g 10 7) (H.c _) p1) ?_ (hg:=gq 4 rfl)
 refine .e rfl (fun H=>x_pkF (H.g 7 4) (H.g 11 8)) ?_
 refine .mv rfl 9 ?_
 refine .fz rfl 1 0 E1_0 ?_ (hg:=gq 10 rfl)
 refine .lp rfl 11 (wC g.1) B2 ?_ (hg:=gq 10 rfl)
 refine .cK rfl (V:=.bool true) Tryz.func163 (fun H=>⟨_,ar1 (H.g 15 12),reV (congrArg Value.bool p2) (frShort (rw g.1))⟩) ?_ (hg:=gq 10 rfl)
 refine .e rfl (V:=.bool false) (fun H=>x_not (H.g 16 13)) ?_ (hg:=gq 10 rfl)
 refine .e rfl (fun H=>x_pkF (H.g 13 10) (H.g 17 14)) ?_
 refine .mv rfl 15 ?_
 refine .fz rfl 1 2 E1_0 ?_ (hg:=gq 16 rfl)
 refine .lp rfl 17 (wC g.2) B2 ?_ (hg:=gq 16 rfl)
 refine .cK rfl (V:=.bool true) Tryz.func163 (fun H=>⟨_,ar1 (H.g 21 18),reV (congrArg Value.bool p3) (frShort (rw g.2))⟩) ?_ (hg:=gq 16 rfl)
 refine .e rfl (V:=.bool false) (fun H=>x_not (H.g 22 19)) ?_ (hg:=gq 16 rfl)
 refine .e rfl (fun H=>x_pkF (H.g 19 16) (H.g 23 20)) ?_
 refine .mv rfl 21 ?_
 refine .fz rfl 1 2 E1_0 ?_ (hg:=gq 22 rfl)
 refine .lp rfl 23 (wC g.2) B2 ?_ (hg:=gq 22 rfl)
 refine .cK rfl Tryz.func101 (fun H=>⟨_,ar1 (H.g 27 24),wSign (rw g.2)⟩) ?_ (hg:=gq 22 rfl)
 refine .e rfl (V:=.bool false) (fun H=>x_cm (H.g 28 25) (H.c _) p4) ?_ (hg:=gq 22 rfl)
 refine .e rfl (fun H=>x_pkF (H.g 25 22) (H.g 29 26)) ?_
 refine .dk (fun u=>wwV g::u1 0::u1 1::sq u 0 28 (us 5)) K4 bel fun u2 w2 D bel=>?_
 have E2_27:=D.q 27
 replace B2:=D.k B2
 clear D
 refine wp_cond_false (by exact E2_27) ?_
 refine wp_skip ?_
 refine K3 _ _ ?_
 refine gd 6 (Amb Z0 W) fun _ K5=>?_
 refine .lr rfl 1 E1_0 B2 ?_
 refine .cR rfl [] Tryz.func135 (fun H=>⟨_,ar1 (H.g 31 0),frRatW _ (by omega) (by omega) (by omega)⟩) ?_
 refine .cK rfl Tryz.func102 (fun H=>⟨_,ar1 (H.r 32 1),frTold _ (SV.any (H.a 1 rfl)) (by omega)⟩) ?_
 refine .lr rfl 1 E1_0 B2 ?_
 refine .e rfl (V:=.bool ((decide (rf (Rat.divInt g.1 g.2) = RF.mk (rw g.1) (rw g.2))))) (fun H=>ex_eql_frac (r:=rf (Rat.divInt g.1 g.2)) (q:=RF.mk (rw g.1) (rw g.2)) _ _ rfl (H.g 33 2) (H.g 34 3) rfl) ?_
 refine .mv rfl 4 ?_
 refine .dk (fun u=>wwV g::u1 0::u 5::sq u2 0 28 (sq u 0 5 [])) K5 bel fun u3 w3 D bel=>?_
 have E3_5:=D.q 5
 clear D
 exact wp_ret (rt rfl E3_5 rfl bel)
end Go.Proofs.YtllohoibifcmdaaGreat
namespace Go.Proofs.YtllohoibifcmdaaGreat
open Go.RowKit Rgn
theorem fmay_fits {r:RF} (h:fits r = false):fmay r = false:=by unfold fmay; rw [h]; rfl
theorem fmay_formed {r:RF} (h:fformed r = false):fmay r = false:=by unfold fmay; rw [h,Bool.and_false]
theorem fits_a {r:RF} (h:1024 < r.a.s.size):fits r = false:=by
 unfold fits; rw [decide_eq_false (by omega)]; rfl
theorem fits_b {r:RF} (h:1024 < r.b.s.size):fits r = false:=by
 unfold fits; rw [decide_eq_false (show ¬ r.b.s.size ≤ 1024 by omega),Bool.and_false]
theorem may_ww {x y:Int} (hy:0 < y):decide (rf (Rat.divInt x y) = RF.mk (rw x) (rw y)) = fformed ⟨rw x,rw y⟩:=by
 have hs:=sign3 y
 rw [fformed_ww,decide_eq_false (show ¬ y.sign ≤ 0 by omega),Bool.not_false,Bool.true_and]
 refine decide_eq_decide.2 ⟨fun h=>?_,fun h=>?_⟩
 ·have h1:=rw_inj (congrArg RF.a h)
  have h2:=rw_inj (congrArg RF.b h)
  have h3:=(Rat.divInt x y).reduced
  have h1:(Rat.divInt x y).num = x:=h1
  have h2:((Rat.divInt x y).den:Int) = y:=h2
  generalize Rat.divInt x y = q at *
  rw [← h1,← h2]
  show ((Nat.gcd q.num.natAbs q.den:Nat):Int) = 1
  rw [Nat.Coprime] at h3; omega
 ·obtain ⟨q,rfl,h2⟩:=frac_ex (x:=x) (y:=y) hy (by omega)
  rw [h2,Rat.num_divInt_den]
theorem frMay {W:World} (r:RF):Calls Tryz.prog 100 #[.agg #[.bool r.a.n,.string r.a.s,.bool r.b.n,.string r.b.s]] W (RetV (.bool (fmay r)) W):=by
 cases h0:((werr r.a) != 0) with
 | true =>
  have e:fmay r = false:=(werr_1 h0).elim (fun h=>fmay_formed (fformed_a h)) (fun h=>fmay_fits (fits_a (by omega)))
  rw [e]; exact frMay0 r h0
 | false =>
  cases h1:((werr r.b) != 0) with
  | true =>
   have e:fmay r = false:=(werr_1 h1).elim (fun h=>fmay_formed (fformed_b h)) (fun h=>fmay_fits (fits_b (by omega)))
   rw [e]; exact frMay1 r h0 h1
  | false =>
   cases h2:wshort r.a with
   | false =>
    have e:fmay r = false:=fmay_fits (fits_a (by unfold wshort at h2; have:=of_decide_eq_false h2; omega))
    rw [e]; exact frMay2 r h0 h1 h2
   | true =>
    cases h3:wshort r.b with
    | false =>
     have e:fmay r = false:=fmay_fits (fits_b (by unfold wshort at h3; have:=of_decide_eq_false h3; omega))
     rw [e]; exact frMay3 r h0 h1 h2 h3
    | true =>
     obtain ⟨x,hx⟩:=wformed_ex (werr_0 h0).1
     obtain ⟨y,hy⟩:=wformed_ex (werr_0 h1).1
     obtain ⟨a,b⟩:=r
     have hx:a = rw x:=hx
     have hy:b = rw y:=hy
     subst hx; subst hy
     have hw:=wsign_rw h1
     have hs:=sign3 y
     cases h4:decide ((wsign (rw y)) ≤ 0) with
     | true =>
      have e:fmay ⟨rw x,rw y⟩ = false:=fmay_formed (by
       have h5:=of_decide_eq_true h4
       rw [hw] at h5
       rw [fformed_ww,decide_eq_true h5]; rfl)
      rw [e]; exact frMay4 ⟨rw x,rw y⟩ h0 h1 h2 h3 h4
     | false =>
      have h5:=of_decide_eq_false h4
      rw [hw] at h5
      have hy:0 < y:=by omega
      have h2' : (rw x).s.size ≤ 1024:=of_decide_eq_true h2
      have h3' : (rw y).s.size ≤ 1024:=of_decide_eq_true h3
      have e:fmay ⟨rw x,rw y⟩ = decide (rf (Rat.divInt x y) = RF.mk (rw x) (rw y)):=by
       rw [may_ww hy]
       unfold fmay fits
       rw [decide_eq_true h2', decide_eq_true h3']; rfl
      rw [e]
      have b1:=hi_bytes x
      have b2:=hi_bytes y
      exact frMayC (x,y) h0 h1 h2 h3 h4 (by show hi x ≤ _; omega) (by show hi y ≤ _; omega) hy
theorem ex_eql_gauss {ρ:Operand → Value} {o:Oper} {w:World} {k:TypeId} (a b:Operand) (ho:o.op = .binOp .eql 30 a b k) {r q:RG} (ha:ρ a = .agg #[.bool r.re.a.n,.string r.re.a.s,.bool r.re.b.n,.string r.re.b.s,.bool r.im.a.n,.string r.im.a.s,.bool r.im.b.n,.string r.im.b.s]) (hb:ρ b = .agg #[.bool q.re.a.n,.string q.re.a.s,.bool q.re.b.n,.string q.re.b.s,.bool q.im.a.n,.string q.im.a.s,.bool q.im.b.n,.string q.im.b.s]) {c:Bool} (hc:decide (r = q) = c) :
  (execOp ρ o).run Tryz.prog w = .ok (.value (.bool (c))) w:=by
 subst hc
 obtain ⟨⟨⟨n1,s1⟩,⟨n2,s2⟩⟩,⟨⟨n3,s3⟩,⟨n4,s4⟩⟩⟩:=r
 obtain ⟨⟨⟨m1,t1⟩,⟨m2,t2⟩⟩,⟨⟨m3,t3⟩,⟨m4,t4⟩⟩⟩:=q
 unfold execOp
 simp only [ho,ha,hb]
 by_cases h0:n1 = m1
 case neg=>simp [h0,go_sem,toList_inj]
 subst h0
 by_cases h1:s1 = t1
 case neg=>simp [h1,go_sem,toList_inj]
 subst h1
 by_cases h2:n2 = m2
 case neg=>simp [h2,go_sem,toList_inj]
 subst h2
 by_cases h3:s2 = t2
 case neg=>simp [h3,go_sem,toList_inj]
 subst h3
 by_cases h4:n3 = m3
 case neg=>simp [h4,go_sem,toList_inj]
 subst h4
 by_cases h5:s3 = t3
 case neg=>simp [h5,go_sem,toList_inj]
 subst h5
 by_cases h6:n4 = m4
 case neg=>simp [h6,go_sem,toList_inj]
 subst h6
 by_cases h7:s4 = t4
 case neg=>simp [h7,go_sem,toList_inj]
 subst h7
 simp [go_sem,toList_inj]
theorem ex_neq_gauss {ρ:Operand → Value} {o:Oper} {w:World} {k:TypeId} (a b:Operand) (ho:o.op = .binOp .neq 30 a b k) {r q:RG} (ha:ρ a = .agg #[.bool r.re.a.n,.string r.re.a.s,.bool r.re.b.n,.string r.re.b.s,.bool r.im.a.n,.string r.im.a.s,.bool r.im.b.n,.string r.im.b.s]) (hb:ρ b = .agg #[.bool q.re.a.n,.string q.re.a.s,.bool q.re.b.n,.string q.re.b.s,.bool q.im.a.n,.string q.im.a.s,.bool q.im.b.n,.string q.im.b.s]) {c:Bool} (hc:decide (r = q) = c) :
  (execOp ρ o).run Tryz.prog w = .ok (.value (.bool (!c))) w:=by
 subst hc
 obtain ⟨⟨⟨n1,s1⟩,⟨n2,s2⟩⟩,⟨⟨n3,s3⟩,⟨n4,s4⟩⟩⟩:=r
 obtain ⟨⟨⟨m1,t1⟩,⟨m2,t2⟩⟩,⟨⟨m3,t3⟩,⟨m4,t4⟩⟩⟩:=q
 unfold execOp
 simp only [ho,ha,hb]
 by_cases h0:n1 = m1
 case neg=>simp [h0,go_sem,toList_inj]
 subst h0
 by_cases h1:s1 = t1
 case neg=>simp [h1,go_sem,toList_inj]
 subst h1
 by_cases h2:n2 = m2
 case neg=>simp [h2,go_sem,toList_inj]
 subst h2
 by_cases h3:s2 = t2
 case neg=>simp [h3,go_sem,toList_inj]
 subst h3
 by_cases h4:n3 = m3
 case neg=>simp [h4,go_sem,toList_inj]
 subst h4
 by_cases h5:s3 = t3
 case neg=>simp [h5,go_sem,toList_inj]
 subst h5
 by_cases h6:n4 = m4
 case neg=>simp [h6,go_sem,toList_inj]
 subst h6
 by_cases h7:s4 = t4
 case neg=>simp [h7,go_sem,toList_inj]
 subst h7
 simp [go_sem,toList_inj]
end Go.Proofs.YtllohoibifcmdaaGreat
