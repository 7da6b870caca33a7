import Derived.Test.YtcpjdjnaipbieaaGreatP03
import Derived.StillTailTactics
import Derived.LoopN
import Derived.Scope
import Derived.Great.BuildSlice
set_option linter.unusedVariables false
set_option linter.unusedSimpArgs false
namespace Go.Proofs.YtcpjdjnaipbieaaGreat
open Go.RowKit Rgn
set_option maxHeartbeats 4000000
set_option maxRecDepth 100000
variable {S:Nat → Prop} {W:World}
theorem qSetFrac {z:Nat} {v1:Value} {v2:Value} (x:Int) (y:Int) (hz:RatBlk W z) (t1:(IntP x).p S v1 W) (t2:(IntP y).p S v2 W) (p0:hi x + hi y + hi y + 8 ≤ 1099511627776) (p1:y ≠ 0) :
  Calls Tryz.prog 234 #[.pointer (some ⟨z,0,none⟩),v1,v2] W (RetOwn z (RatP (Rat.divInt x y)) W):=by
 have hS_:∃ S' : Nat → Prop,S' z ∧ (IntP x).p S' v1 W ∧ (IntP y).p S' v2 W:=⟨fun k=>S k ∨ k = z,.inr rfl,(IntP x).mono (fun _ _ h=>.inl h) t1,(IntP y).mono (fun _ _ h=>.inl h) t2⟩
 clear t1 t2
 obtain ⟨S,L_z,t1,t2⟩:=hS_
 replace L_z:Amb S W z:=.inl L_z
 obtain ⟨z_0,z_1,z_2,z_3,B_z⟩:=hz
 obtain ⟨b1,ob1,rfl,L1,F1⟩:=IntP.elim t1
 replace L1:Amb S W b1:=.inl L1
 obtain ⟨b2,ob2,rfl,L2,F2⟩:=IntP.elim t2
 replace L2:Amb S W b2:=.inl L2
 have g0:=hi_gcd (x:=x) p1
 have g1:=gcd_ne (x:=x) p1
 have g2:=hi_neg (Int.gcd x y:Int)
 have bel:Only z W W:=Only.refl _ _
 go_enter Tryz.func234,Tryz.ntmps234
 refine gs 1 (Amb S W) fun _ K3=>?_
 refine .mc rfl ?_
 refine .dg (fun u=>pt z::.pointer (some ⟨b1,ob1,none⟩)::.pointer (some ⟨b2,ob2,none⟩)::U::U::U::u 0::us 35) K3 bel.size fun u1 w1 D=>?_
 have E1_0:=D.q 0
 replace B_z:=D.k B_z
 replace F1:=D.o L1 F1
 replace F2:=D.o L2 F2
 replace bel:=D.d.base.only0 bel
 clear D
 refine gs 5 (Amb S W) fun _ K4=>?_
 refine .al rfl zI ?_
 refine .mz rfl 1 (V:=.pointer (some ⟨b1,ob1,none⟩)) rfl ?_
 refine .mz rfl 2 (V:=.pointer (some ⟨b2,ob2,none⟩)) rfl ?_
 refine .cO rfl 0 Tryz.func276 (fun H h0 hz=>⟨_,ar5 (H.p 10 0 h0) (H.c (.pointer none)) (H.c (.pointer none)) (H.g 11 1) (H.g 12 2),bGCD _ _ (IntBlk.of hz) (VP.any _ (H.was _ [] (VP.at F1 L1))) (VP.any _ (H.was _ [] (VP.at F2 L2))) (by omega)⟩) ?_
 refine .mo rfl 3 ?_
 refine .dg (fun u=>pt z::.pointer (some ⟨b1,ob1,none⟩)::.pointer (some ⟨b2,ob2,none⟩)::U::U::U::u1 0::u 4::U::U::sq u 0 4 (us 28)) K4 bel.size fun u2 w2 D=>?_
 obtain ⟨b5,E2_4,A5,F5⟩:=D.ow 4
 have N_z_b5:=D.n1 0 (lt_of B_z) ((D.a 4 rfl).1.symm.trans E2_4)
 have N1_5:=D.n1 0 (IntP.lt F1) ((D.a 4 rfl).1.symm.trans E2_4)
 have N2_5:=D.n1 0 (IntP.lt F2) ((D.a 4 rfl).1.symm.trans E2_4)
 replace B_z:=D.k B_z
 replace F1:=D.o L1 F1
 replace F2:=D.o L2 F2
 have L5:Amb S W b5:=.inr A5
 replace bel:=D.d.base.only0 bel
 clear D
 refine wp_seq_k fun _ K6=>?_
 refine gs 4 (Amb S W) fun _ K7=>?_
 refine .mz rfl 2 (V:=.pointer (some ⟨b2,ob2,none⟩)) rfl ?_
 refine .nc rfl 0 ?_
 refine .fj rfl 1 ob2 ?_
 refine .e rfl (V:=.bool (decide (y < 0))) (fun H=>by have e16:=H.g 16 2; have c1:=IntP.c0 (k:=ob2) (VP.any _ (H.was _ [] (VP.at F2 L2))) rfl; clear H; go_simp) ?_
 refine .dg (fun u=>pt z::.pointer (some ⟨b1,ob1,none⟩)::.pointer (some ⟨b2,ob2,none⟩)::U::U::U::u1 0::u2 4::U::U::sq u2 0 4 (sq u 0 4 (us 24))) K7 bel.size fun u3 w3 D=>?_
 have E3_3:=D.q 3
 replace B_z:=D.k B_z
 replace F1:=D.o L1 F1
 replace F2:=D.o L2 F2
 replace F5:=D.o L5 F5
 replace bel:=D.d.base.only0 bel
 clear D
 rcases Bool.eq_false_or_eq_true (decide (y < 0)) with c8 | c8
 ·
  refine wp_cond_true ((E3_3).trans (congrArg Value.bool c8)) ?_
  have dc8:=of_decide_eq_true c8
  refine go2_seqT 2 1 rfl (Amb S W) [] [] (Olds.nil _) (by kernel_rfl) ?_
  refine .mz rfl 7 E2_4 ?_
  refine .mz rfl 7 E2_4 ?_
  refine .dT (fun u=>pt z::.pointer (some ⟨b1,ob1,none⟩)::.pointer (some ⟨b2,ob2,none⟩)::U::U::U::u1 0::u2 4::U::U::sq u2 0 4 (sq u3 0 4 (sq u 0 3 (us 21)))) bel.size _ rfl fun u4 w4 D=>?_
  have E4_0:=D.q 0
  have E4_1:=D.q 1
  replace B_z:=D.k B_z
  replace F1:=D.o L1 F1
  replace F2:=D.o L2 F2
  replace F5:=D.o L5 F5
  replace bel:=D.d.base.only0 bel
  clear D
  refine wpT_callO (args:=#[pt b5,pt b5]) rfl (ex_call rfl rfl Tryz.func254 (by kernel_rfl) (by kernel_rfl) (by simp only [List.map_toArray,List.map_cons,List.map_nil]; show #[(u4 0).v,(u4 1).v] = #[pt b5,pt b5]; rw [E4_0,E4_1])) (bNeg (z:=b5) (x:=(Int.gcd x y:Int)) (IntO.blk F5) (IntO.p (VP.any _ F5)) (by omega)) fun w9 fw9 ow9=>?_
  have sw9:Soft w4 b5 ∨ Local w4 b5:=.inl (IntO.soft F5)
  replace B_z:=ow9.keep B_z N_z_b5
  replace F1:=ow9.one sw9 _ N1_5 F1
  replace F2:=ow9.one sw9 _ N2_5 F2
  have F5:=fw9
  have L5:Amb S W b5:=.inr A5
  replace bel:=Only.other ow9 A5 bel.size bel
  refine wpList_nil ?_
  show _
  refine K6 _ _ ?_
  refine gs 10 (Amb S W) fun _ K10=>?_
  refine .al rfl zI ?_
  refine .mz rfl 1 (V:=.pointer (some ⟨b1,ob1,none⟩)) rfl ?_
  refine .mz rfl 7 E2_4 ?_
  refine .cO rfl 0 Tryz.func277 (fun H h0 hz=>⟨_,ar3 (H.p 21 0 h0) (H.g 22 1) (H.g 23 2),bQuo _ _ (IntBlk.of hz) (VP.any _ (H.was _ [] (VP.at F1 L1))) (IntO.p (VP.any _ (H.was _ [] (VP.at F5 L5)))) (by omega) (by omega)⟩) ?_
  refine .al rfl zI ?_
  refine .mz rfl 2 (V:=.pointer (some ⟨b2,ob2,none⟩)) rfl ?_
  refine .mz rfl 7 E2_4 ?_
  refine .cO rfl 4 Tryz.func277 (fun H h0 hz=>⟨_,ar3 (H.p 25 4 h0) (H.g 26 5) (H.g 27 6),bQuo _ _ (IntBlk.of hz) (VP.any _ (H.was _ [] (VP.at F2 L2))) (IntO.p (VP.any _ (H.was _ [] (VP.at F5 L5)))) (by omega) (by omega)⟩) ?_
  refine .mo rfl 3 ?_
  refine .mo rfl 7 ?_
  refine .dg (fun u=>pt z::.pointer (some ⟨b1,ob1,none⟩)::.pointer (some ⟨b2,ob2,none⟩)::U::U::U::u1 0::u2 4::u 8::u 9::sq u2 0 4 (sq u3 0 4 (u4 0::u4 1::.pointer (some ⟨b5,0,none⟩)::sq u 0 8 (us 13)))) K10 bel.size fun u5 w5 D=>?_
  obtain ⟨b11,E5_8,A11,F11⟩:=D.ow 8
  obtain ⟨b12,E5_9,A12,F12⟩:=D.ow 9
  have N_z_b11:=D.n1 0 (lt_of B_z) ((D.a 8 rfl).1.symm.trans E5_8)
  have N5_11:=D.n1 0 (IntO.lt F5) ((D.a 8 rfl).1.symm.trans E5_8)
  have N_z_b12:=D.n1 4 (lt_of B_z) ((D.a 9 rfl).1.symm.trans E5_9)
  have N5_12:=D.n1 4 (IntO.lt F5) ((D.a 9 rfl).1.symm.trans E5_9)
  replace B_z:=D.k B_z
  have L11:Amb S W b11:=.inr A11
  have L12:Amb S W b12:=.inr A12
  replace bel:=D.d.base.only0 bel
  clear D
  refine wp_seq_k fun _ K13=>?_
  refine go2_drawnT (by kernel_rfl) 13 1 rfl (by decide) (by kernel_rfl) (fun k=>Amb S W k ∧ k ≠ z) [(z,10)] [10] (Olds.one (lt_of B_z)) (by kernel_rfl) ?_
  refine .mz rfl 0 (V:=pt z) rfl ?_
  refine .mz rfl 0 (V:=pt z) rfl ?_
  refine .mz rfl 8 E5_8 ?_
  refine .nc rfl 2 ?_
  refine Go2.fn (i:=4) rfl (G0 rfl) (.val 4 [] (IntV (x.tdiv (-(Int.gcd x y:Int))))) (fun u μ ρ H=>by have e32:=H.g 32 3; obtain ⟨v_,hB_,hm_⟩:=IntO.at (VP.any _ (H.was _ [] (VP.at F11 (And.intro L11 (Ne.symm N_z_b11))))); exact ⟨_,ex_load_row 207 _ rfl e32 hB_ Tryz.underlying207 rfl (by kernel_rfl),SP.intV hm_⟩) ?_
  refine .mz rfl 9 E5_9 ?_
  refine .nc rfl 5 ?_
  refine Go2.fn (i:=7) rfl (G0 rfl) (.val 7 [] (IntV (y.tdiv (-(Int.gcd x y:Int))))) (fun u μ ρ H=>by have e35:=H.g 35 6; obtain ⟨v_,hB_,hm_⟩:=IntO.at (VP.any _ (H.was _ [] (VP.at F12 (And.intro L12 (Ne.symm N_z_b12))))); exact ⟨_,ex_load_row 207 _ rfl e35 hB_ Tryz.underlying207 rfl (by kernel_rfl),SP.intV hm_⟩) ?_
  refine .nc rfl 0 ?_
  refine .fj rfl 8 0 ?_
  refine Go2.storeSoft (i:=10) 0 z rfl rfl rfl ⟨_,_,B_z,rfl⟩ (fun h=>h.2 rfl) (SP.old 0 z [4] (fun u=>#[.bool (decide ((x.tdiv (-(Int.gcd x y:Int))) < 0)),((u 4).v.cells.getD 1 undef),z_2,z_3]) 209 (by intro u u' h; simp [h 4 (by simp)]) (lt_of B_z) (by intro y k hy; match y,hy with | 0,hy=>rfl)) (fun u μ ρ H=>?_) ?_
  · have e38:=H.g 38 9; have e33:=H.r 33 4; have hb:=H.blkOld B_z 0 10 rfl (.inl rfl)
    obtain ⟨x1,x2,h1,h2,h3⟩:=(H.a 4 rfl)
    obtain rfl:x1 = _:=h2
    have o2:=VP1.mag h3
    rw [h1] at e33
    refine ⟨μ.setRow z #[.bool (decide ((x.tdiv (-(Int.gcd x y:Int))) < 0)),x2,z_2,z_3],ex_store_part 207 _ _ rfl e38 e33 hb (by kernel_rfl) (by simp) (by simp [o2] <;> rfl) (by simp),fun g=>?_,setRow_only _ _ _⟩
    show (World.setRow _ _ _).heap[z]? = _
    rw [setRow_at hb]; try simp [upd,h1,Value.cells]
  refine .nc rfl 1 ?_
  refine .fj rfl 11 2 ?_
  refine .dT (fun u=>pt z::.pointer (some ⟨b1,ob1,none⟩)::.pointer (some ⟨b2,ob2,none⟩)::U::U::U::u1 0::u2 4::u5 8::u5 9::sq u2 0 4 (sq u3 0 4 (u4 0::u4 1::.pointer (some ⟨b5,0,none⟩)::sq u5 0 8 (sq u 0 10 (u 11::u 12::U::[]))))) bel.size _ rfl fun u6 w6 D=>?_
  obtain ⟨x14,x15,E6_4,e_,F_x15⟩:=(D.rz 4)
  obtain rfl:x14 = _:=e_
  replace F_x15:(MagP (x.tdiv (-(Int.gcd x y:Int))).natAbs).p (Amb S W) x15 w6:=F_x15
  obtain ⟨x16,x17,E6_7,e_,F_x17⟩:=(D.rz 7)
  obtain rfl:x16 = _:=e_
  replace F_x17:(MagP (y.tdiv (-(Int.gcd x y:Int))).natAbs).p (Amb S W) x17 w6:=F_x17
  have E6_12:=D.q 12
  replace B_z:w6.heap[z]? = _:=(D.a 10 rfl)
  simp only [Value.cells,E6_4,E6_7] at B_z
  replace bel:=bel.trans ⟨D.d.base.grow.os,D.d.base.grow.tape,D.d.base.grow.output,D.d.base.grow.size,fun k hk hz=>D.d.base.block k hk (fun x_ i_ hx_=>by have h_:=List.mem_of_getElem? hx_; simp at h_; exact hz h_.1)⟩
  clear D
  have o1_:=VP1.mag F_x17
  refine wpT_skip rfl (ex_store_part 207 _ _ rfl (by exact E6_12) (by exact E6_7) B_z (by kernel_rfl) (by simp) (by simp [o1_] <;> rfl) (vs:=#[.bool (decide ((x.tdiv (-(Int.gcd x y:Int))) < 0)),x15,.bool (decide ((y.tdiv (-(Int.gcd x y:Int))) < 0)),x17]) (by simp)) ?_
  have ow18:=setRow_only w6 z #[.bool (decide ((x.tdiv (-(Int.gcd x y:Int))) < 0)),x15,.bool (decide ((y.tdiv (-(Int.gcd x y:Int))) < 0)),x17]
  have sw18:Soft w6 z ∨ Local w6 z:=.inl ⟨_,_,B_z,rfl⟩
  replace B_z:=setRow_at (c' := #[.bool (decide ((x.tdiv (-(Int.gcd x y:Int))) < 0)),x15,.bool (decide ((y.tdiv (-(Int.gcd x y:Int))) < 0)),x17]) B_z
  replace F_x15:=(MagP ((x.tdiv (-(Int.gcd x y:Int))).natAbs)).grow (S:=fun _=>False) (Rgn.Only.growF ow18 sw18) F_x15
  replace F_x17:=(MagP ((y.tdiv (-(Int.gcd x y:Int))).natAbs)).grow (S:=fun _=>False) (Rgn.Only.growF ow18 sw18) F_x17
  replace bel:=bel.trans ow18
  obtain ⟨w18,hw18⟩:∃ x_,x_ = w6.setRow z #[.bool (decide ((x.tdiv (-(Int.gcd x y:Int))) < 0)),x15,.bool (decide ((y.tdiv (-(Int.gcd x y:Int))) < 0)),x17]:=⟨_,rfl⟩
  rw [← hw18] at B_z
  rw [← hw18] at F_x15
  rw [← hw18] at F_x17
  rw [← hw18] at bel
  rw [← hw18]
  clear hw18
  refine wpList_nil ?_
  show _
  refine K13 _ _ ?_
  refine gs 2 (Amb S W) fun _ K19=>?_
  refine .mz rfl 0 (V:=pt z) rfl ?_
  refine .mv rfl 0 ?_
  refine .dg (fun u=>pt z::.pointer (some ⟨b1,ob1,none⟩)::.pointer (some ⟨b2,ob2,none⟩)::U::U::U::u 1::u2 4::u5 8::u5 9::sq u2 0 4 (sq u3 0 4 (u4 0::u4 1::.pointer (some ⟨b5,0,none⟩)::sq u5 0 8 (sq u6 0 10 (u6 11::u6 12::u 0::[]))))) K19 bel.size fun u7 w7 D=>?_
  have E7_1:=D.q 1
  replace B_z:=D.k B_z
  replace F_x15:=D.gr (MagP ((x.tdiv (-(Int.gcd x y:Int))).natAbs)) F_x15
  replace F_x17:=D.gr (MagP ((y.tdiv (-(Int.gcd x y:Int))).natAbs)) F_x17
  replace bel:=D.d.base.only0 bel
  clear D
  refine wp_ret ?_
  exact ret_ok rfl (by exact results_tmp' rfl (by exact E7_1)) ⟨rfl,RatP.of ((sf_1 dc8).1) ((sf_1 dc8).2) B_z F_x15 F_x17,bel⟩
 ·
  refine wp_cond_false ((E3_3).trans (congrArg Value.bool c8)) ?_
  have dc8:=of_decide_eq_false c8
  refine wp_skip ?_
  refine K6 _ _ ?_
  refine gs 10 (Amb S W) fun _ K20=>?_
  refine .al rfl zI ?_
  refine .mz rfl 1 (V:=.pointer (some ⟨b1,ob1,none⟩)) rfl ?_
  refine .mz rfl 7 E2_4 ?_
  refine .cO rfl 0 Tryz.func277 (fun H h0 hz=>⟨_,ar3 (H.p 21 0 h0) (H.g 22 1) (H.g 23 2),bQuo _ _ (IntBlk.of hz) (VP.any _ (H.was _ [] (VP.at F1 L1))) (IntO.p (VP.any _ (H.was _ [] (VP.at F5 L5)))) (by omega) (by omega)⟩) ?_
  refine .al rfl zI ?_
  refine .mz rfl 2 (V:=.pointer (some ⟨b2,ob2,none⟩)) rfl ?_
  refine .mz rfl 7 E2_4 ?_
  refine .cO rfl 4 Tryz.func277 (fun H h0 hz=>⟨_,ar3 (H.p 25 4 h0) (H.g 26 5) (H.g 27 6),bQuo _ _ (IntBlk.of hz) (VP.any _ (H.was _ [] (VP.at F2 L2))) (IntO.p (VP.any _ (H.was _ [] (VP.at F5 L5)))) (by omega) (by omega)⟩) ?_
  refine .mo rfl 3 ?_
  refine .mo rfl 7 ?_
  refine .dg (fun u=>pt z::.pointer (some ⟨b1,ob1,none⟩)::.pointer (some ⟨b2,ob2,none⟩)::U::U::U::u1 0::u2 4::u 8::u 9::sq u2 0 4 (sq u3 0 4 (U::U::U::sq u 0 8 (us 13)))) K20 bel.size fun u8 w8 D=>?_
  obtain ⟨b21,E8_8,A21,F21⟩:=D.ow 8
  obtain ⟨b22,E8_9,A22,F22⟩:=D.ow 9
  have N_z_b21:=D.n1 0 (lt_of B_z) ((D.a 8 rfl).1.symm.trans E8_8)
  have N5_21:=D.n1 0 (IntO.lt F5) ((D.a 8 rfl).1.symm.trans E8_8)
  have N_z_b22:=D.n1 4 (lt_of B_z) ((D.a 9 rfl).1.symm.trans E8_9)
  have N5_22:=D.n1 4 (IntO.lt F5) ((D.a 9 rfl).1.symm.trans E8_9)
  replace B_z:=D.k B_z
  have L21:Amb S W b21:=.inr A21
  have L22:Amb S W b22:=.inr A22
  replace bel:=D.d.base.only0 bel
  clear D
  refine wp_seq_k fun _ K23=>?_
  refine go2_drawnT (by kernel_rfl) 13 1 rfl (by decide) (by kernel_rfl) (fun k=>Amb S W k ∧ k ≠ z) [(z,10)] [10] (Olds.one (lt_of B_z)) (by kernel_rfl) ?_
  refine .mz rfl 0 (V:=pt z) rfl ?_
  refine .mz rfl 0 (V:=pt z) rfl ?_
  refine .mz rfl 8 E8_8 ?_
  refine .nc rfl 2 ?_
  refine Go2.fn (i:=4) rfl (G0 rfl) (.val 4 [] (IntV (x.tdiv (Int.gcd x y:Int)))) (fun u μ ρ H=>by have e32:=H.g 32 3; obtain ⟨v_,hB_,hm_⟩:=IntO.at (VP.any _ (H.was _ [] (VP.at F21 (And.intro L21 (Ne.symm N_z_b21))))); exact ⟨_,ex_load_row 207 _ rfl e32 hB_ Tryz.underlying207 rfl (by kernel_rfl),SP.intV hm_⟩) ?_
  refine .mz rfl 9 E8_9 ?_
  refine .nc rfl 5 ?_
  refine Go2.fn (i:=7) rfl (G0 rfl) (.val 7 [] (IntV (y.tdiv (Int.gcd x y:Int)))) (fun u μ ρ H=>by have e35:=H.g 35 6; obtain ⟨v_,hB_,hm_⟩:=IntO.at (VP.any _ (H.was _ [] (VP.at F22 (And.intro L22 (Ne.symm N_z_b22))))); exact ⟨_,ex_load_row 207 _ rfl e35 hB_ Tryz.underlying207 rfl (by kernel_rfl),SP.intV hm_⟩) ?_
  refine .nc rfl 0 ?_
  refine .fj rfl 8 0 ?_
  refine Go2.storeSoft (i:=10) 0 z rfl rfl rfl ⟨_,_,B_z,rfl⟩ (fun h=>h.2 rfl) (SP.old 0 z [4] (fun u=>#[.bool (decide ((x.tdiv (Int.gcd x y:Int)) < 0)),((u 4).v.cells.getD 1 undef),z_2,z_3]) 209 (by intro u u' h; simp [h 4 (by simp)]) (lt_of B_z) (by intro y k hy; match y,hy with | 0,hy=>rfl)) (fun u μ ρ H=>?_) ?_
  · have e38:=H.g 38 9; have e33:=H.r 33 4; have hb:=H.blkOld B_z 0 10 rfl (.inl rfl)
    obtain ⟨x1,x2,h1,h2,h3⟩:=(H.a 4 rfl)
    obtain rfl:x1 = _:=h2
    have o2:=VP1.mag h3
    rw [h1] at e33
    refine ⟨μ.setRow z #[.bool (decide ((x.tdiv (Int.gcd x y:Int)) < 0)),x2,z_2,z_3],ex_store_part 207 _ _ rfl e38 e33 hb (by kernel_rfl) (by simp) (by simp [o2] <;> rfl) (by simp),fun g=>?_,setRow_only _ _ _⟩
    show (World.setRow _ _ _).heap[z]? = _
    rw [setRow_at hb]; try simp [upd,h1,Value.cells]
  refine .nc rfl 1 ?_
  refine .fj rfl 11 2 ?_
  refine .dT (fun u=>pt z::.pointer (some ⟨b1,ob1,none⟩)::.pointer (some ⟨b2,ob2,none⟩)::U::U::U::u1 0::u2 4::u8 8::u8 9::sq u2 0 4 (sq u3 0 4 (U::U::U::sq u8 0 8 (sq u 0 10 (u 11::u 12::U::[]))))) bel.size _ rfl fun u9 w9 D=>?_
  obtain ⟨x24,x25,E9_4,e_,F_x25⟩:=(D.rz 4)
  obtain rfl:x24 = _:=e_
  replace F_x25:(MagP (x.tdiv (Int.gcd x y:Int)).natAbs).p (Amb S W) x25 w9:=F_x25
  obtain ⟨x26,x27,E9_7,e_,F_x27⟩:=(D.rz 7)
  obtain rfl:x26 = _:=e_
  replace F_x27:(MagP (y.tdiv (Int.gcd x y:Int)).natAbs).p (Amb S W) x27 w9:=F_x27
  have E9_12:=D.q 12
  replace B_z:w9.heap[z]? = _:=(D.a 10 rfl)
  simp only [Value.cells,E9_4,E9_7] at B_z
  replace bel:=bel.trans ⟨D.d.base.grow.os,D.d.base.grow.tape,D.d.base.grow.output,D.d.base.grow.size,fun k hk hz=>D.d.base.block k hk (fun x_ i_ hx_=>by have h_:=List.mem_of_getElem? hx_; simp at h_; exact hz h_.1)⟩
  clear D
  have o1_:=VP1.mag F_x27
  refine wpT_skip rfl (ex_store_part 207 _ _ rfl (by exact E9_12) (by exact E9_7) B_z (by kernel_rfl) (by simp) (by simp [o1_] <;> rfl) (vs:=#[.bool (decide ((x.tdiv (Int.gcd x y:Int)) < 0)),x25,.bool (decide ((y.tdiv (Int.gcd x y:Int)) < 0)),x27]) (by simp)) ?_
  have ow28:=setRow_only w9 z #[.bool (decide ((x.tdiv (Int.gcd x y:Int)) < 0)),x25,.bool (decide ((y.tdiv (Int.gcd x y:Int)) < 0)),x27]
  have sw28:Soft w9 z ∨ Local w9 z:=.inl ⟨_,_,B_z,rfl⟩
  replace B_z:=setRow_at (c' := #[.bool (decide ((x.tdiv (Int.gcd x y:Int)) < 0)),x25,.bool (decide ((y.tdiv (Int.gcd x y:Int)) < 0)),x27]) B_z
  replace F_x25:=(MagP ((x.tdiv (Int.gcd x y:Int)).natAbs)).grow (S:=fun _=>False) (Rgn.Only.growF ow28 sw28) F_x25
  replace F_x27:=(MagP ((y.tdiv (Int.gcd x y:Int)).natAbs)).grow (S:=fun _=>False) (Rgn.Only.growF ow28 sw28) F_x27
  replace bel:=bel.trans ow28
  obtain ⟨w28,hw28⟩:∃ x_,x_ = w9.setRow z #[.bool (decide ((x.tdiv (Int.gcd x y:Int)) < 0)),x25,.bool (decide ((y.tdiv (Int.gcd x y:Int)) < 0)),x27]:=⟨_,rfl⟩
  rw [← hw28] at B_z
  rw [← hw28] at F_x25
  rw [← hw28] at F_x27
  rw [← hw28] at bel
  rw [← hw28]
  clear hw28
  refine wpList_nil ?_
  show _
  refine K23 _ _ ?_
  refine gs 2 (Amb S W) fun _ K29=>?_
  refine .mz rfl 0 (V:=pt z) rfl ?_
  refine .mv rfl 0 ?_
  refine .dg (fun u=>pt z::.pointer (some ⟨b1,ob1,none⟩)::.pointer (some ⟨b2,ob2,none⟩)::U::U::U::u 1::u2 4::u8 8::u8 9::sq u2 0 4 (sq u3 0 4 (U::U::U::sq u8 0 8 (sq u9 0 10 (u9 11::u9 12::u 0::[]))))) K29 bel.size fun u10 w10 D=>?_
  have E10_1:=D.q 1
  replace B_z:=D.k B_z
  replace F_x25:=D.gr (MagP ((x.tdiv (Int.gcd x y:Int)).natAbs)) F_x25
  replace F_x27:=D.gr (MagP ((y.tdiv (Int.gcd x y:Int)).natAbs)) F_x27
  replace bel:=D.d.base.only0 bel
  clear D
  refine wp_ret ?_
  exact ret_ok rfl (by exact results_tmp' rfl (by exact E10_1)) ⟨rfl,RatP.of ((sf_2 p1 dc8).1) ((sf_2 p1 dc8).2) B_z F_x25 F_x27,bel⟩
theorem qMul {z:Nat} {v1:Value} {v2:Value} (x:Rat) (y:Rat) (hz:RatBlk W z) (t1:(RatP x).p S v1 W) (t2:(RatP y).p S v2 W) (p0:ht x + ht y ≤ 68719476736) :
  Calls Tryz.prog 190 #[.pointer (some ⟨z,0,none⟩),v1,v2] W (RetOwn z (RatP (x * y)) W):=by
 have hS_:∃ S' : Nat → Prop,S' z ∧ (RatP x).p S' v1 W ∧ (RatP y).p S' v2 W:=⟨fun k=>S k ∨ k = z,.inr rfl,(RatP x).mono (fun _ _ h=>.inl h) t1,(RatP y).mono (fun _ _ h=>.inl h) t2⟩
 clear t1 t2
 obtain ⟨S,L_z,t1,t2⟩:=hS_
 replace L_z:Amb S W z:=.inl L_z
 obtain ⟨z_0,z_1,z_2,z_3,B_z⟩:=hz
 obtain ⟨b1,rfl,L1,F1⟩:=RatP.elim t1
 replace L1:Amb S W b1:=.inl L1
 obtain ⟨b2,rfl,L2,F2⟩:=RatP.elim t2
 replace L2:Amb S W b2:=.inl L2
 have n0:=hi_num x
 have n1:=hi_num y
 have n2:=hi_den x
 have n3:=hi_den y
 have m0:=hi_mul x.num y.num
 have m2:=hi_mul (x.den:Int) (y.den:Int)
 have bel:Only z W W:=Only.refl _ _
 go_enter Tryz.func190,Tryz.ntmps190
 refine gs 1 (Amb S W) fun _ K3=>?_
 refine .mc rfl ?_
 refine .dg (fun u=>pt z::pt b1::pt b2::U::U::U::u 0::us 16) K3 bel.size fun u1 w1 D=>?_
 have E1_0:=D.q 0
 replace B_z:=D.k B_z
 replace F1:=D.o L1 F1
 replace F2:=D.o L2 F2
 replace bel:=D.d.base.only0 bel
 clear D
 refine wp_seq_k fun _ K4=>?_
 refine go2_drawnT (by kernel_rfl) 15 2 rfl (by decide) (by kernel_rfl) (Amb S W) [] [] (Olds.nil _) (by kernel_rfl) ?_
 refine .mz rfl 0 (V:=pt z) rfl ?_
 refine .al rfl zI ?_
 refine .mz rfl 1 (V:=pt b1) rfl ?_
 refine .nc rfl 2 ?_
 refine .fj rfl 3 0 ?_
 refine .mz rfl 2 (V:=pt b2) rfl ?_
 refine .nc rfl 5 ?_
 refine .fj rfl 6 0 ?_
 refine .cO rfl 1 Tryz.func249 (fun H h0 hz=>⟨_,ar3 (H.p 8 1 h0) (H.g 11 4) (H.g 14 7),bMul _ _ (IntBlk.of hz) (RatP.num (VP.any _ (H.was _ [] (VP.at F1 L1)))) (RatP.num (VP.any _ (H.was _ [] (VP.at F2 L2)))) (by first | omega | exact den_mul_ne _ _)⟩) ?_
 refine .al rfl zI ?_
 refine .mz rfl 1 (V:=pt b1) rfl ?_
 refine .cR rfl [] Tryz.func250 (fun H=>⟨_,ar1 (H.g 17 10),bDen _ (H.was _ [] (VP.at F1 L1))⟩) ?_
 refine .mz rfl 2 (V:=pt b2) rfl ?_
 refine .cR rfl [] Tryz.func250 (fun H=>⟨_,ar1 (H.g 19 12),bDen _ (H.was _ [] (VP.at F2 L2))⟩) ?_
 refine .cO rfl 9 Tryz.func249 (fun H h0 hz=>⟨_,ar3 (H.p 16 9 h0) (H.r 18 11) (H.r 20 13),bMul _ _ (IntBlk.of hz) (SV.any (H.a 11 rfl)) (SV.any (H.a 13 rfl)) (by first | omega | exact den_mul_ne _ _)⟩) ?_
 refine .dT (fun u=>pt z::pt b1::pt b2::U::U::U::u 16::sq u 0 16 []) bel.size _ rfl fun u2 w2 D=>?_
 obtain ⟨b5,E2_8,A5,F5⟩:=D.ow 8
 obtain ⟨b6,E2_14,A6,F6⟩:=D.ow 14
 have E2_0:=D.q 0
 have N_z_b5:=D.n1 1 (lt_of B_z) ((D.a 8 rfl).1.symm.trans E2_8)
 have N_z_b6:=D.n1 9 (lt_of B_z) ((D.a 14 rfl).1.symm.trans E2_14)
 replace B_z:=D.k B_z
 have L5:Amb S W b5:=.inr A5
 have L6:Amb S W b6:=.inr A6
 replace bel:=D.d.base.only0 bel
 clear D
 refine wpT_callO (args:=#[pt z,pt b5,pt b6]) rfl (ex_call rfl rfl Tryz.func234 (by kernel_rfl) (by kernel_rfl) (by simp only [List.map_toArray,List.map_cons,List.map_nil]; show #[(u2 0).v,(u2 8).v,(u2 14).v] = #[pt z,pt b5,pt b6]; rw [E2_0,E2_8,E2_14])) (qSetFrac (z:=z) (x:=x.num * y.num) (y:=(x.den:Int) * (y.den:Int)) (RatBlk.of B_z) (IntO.p (VP.any _ F5)) (IntO.p (VP.any _ F6)) (by first | omega | exact den_mul_ne _ _) (by first | omega | exact den_mul_ne _ _)) fun w7 fw7 ow7=>?_
 have sw7:Soft w2 z ∨ Local w2 z:=.inl ⟨_,_,B_z,rfl⟩
 replace F5:=ow7.one sw7 _ (Ne.symm N_z_b5) F5
 replace F6:=ow7.one sw7 _ (Ne.symm N_z_b6) F6
 have F_z:=fw7
 replace bel:=bel.trans ow7
 refine wpT_val rfl (ex_assign rfl) ?_
 refine wpList_nil ?_
 show _
 refine K4 _ _ ?_
 refine wp_ret ?_
 refine ret_ok rfl (by exact results_tmp' rfl rfl) ⟨rfl,?_,bel⟩
 exact rat_eq (fr_times x y) F_z
theorem qInv {z:Nat} {v1:Value} (x:Rat) (hz:RatBlk W z) (t1:(RatP x).p S v1 W) (p0:ht x ≤ 68719476736) (p1:x ≠ 0) :
  Calls Tryz.prog 199 #[.pointer (some ⟨z,0,none⟩),v1] W (RetOwn z (RatP (x⁻¹)) W):=by
 have hS_:∃ S' : Nat → Prop,S' z ∧ (RatP x).p S' v1 W:=⟨fun k=>S k ∨ k = z,.inr rfl,(RatP x).mono (fun _ _ h=>.inl h) t1⟩
 clear t1
 obtain ⟨S,L_z,t1⟩:=hS_
 replace L_z:Amb S W z:=.inl L_z
 obtain ⟨z_0,z_1,z_2,z_3,B_z⟩:=hz
 obtain ⟨b1,rfl,L1,F1⟩:=RatP.elim t1
 replace L1:Amb S W b1:=.inl L1
 have n0:=hi_num x
 have n2:=hi_den x
 have bel:Only z W W:=Only.refl _ _
 go_enter Tryz.func199,Tryz.ntmps199
 refine gs 1 (Amb S W) fun _ K2=>?_
 refine .mc rfl ?_
 refine .dg (fun u=>pt z::pt b1::U::U::u 0::us 7) K2 bel.size fun u1 w1 D=>?_
 have E1_0:=D.q 0
 replace B_z:=D.k B_z
 replace F1:=D.o L1 F1
 replace bel:=D.d.base.only0 bel
 clear D
 refine wp_seq_k fun _ K3=>?_
 refine go2_drawnT (by kernel_rfl) 6 2 rfl (by decide) (by kernel_rfl) (Amb S W) [] [] (Olds.nil _) (by kernel_rfl) ?_
 refine .mz rfl 0 (V:=pt z) rfl ?_
 refine .mz rfl 1 (V:=pt b1) rfl ?_
 refine .cR rfl [] Tryz.func250 (fun H=>⟨_,ar1 (H.g 6 1),bDen _ (H.was _ [] (VP.at F1 L1))⟩) ?_
 refine .mz rfl 1 (V:=pt b1) rfl ?_
 refine .nc rfl 3 ?_
 refine .fj rfl 4 0 ?_
 refine .dT (fun u=>pt z::pt b1::U::U::u 7::sq u 0 7 []) bel.size _ rfl fun u2 w2 D=>?_
 obtain ⟨b4,ob4,E2_2,L4,F4⟩:=IntP.elim (D.rr 2)
 have E2_0:=D.q 0
 have E2_5:=D.q 5
 replace B_z:=D.k B_z
 replace F1:=D.o L1 F1
 replace bel:=D.d.base.only0 bel
 clear D
 refine wpT_callO (args:=#[pt z,.pointer (some ⟨b4,ob4,none⟩),pt b1]) rfl (ex_call rfl rfl Tryz.func234 (by kernel_rfl) (by kernel_rfl) (by simp only [List.map_toArray,List.map_cons,List.map_nil]; show #[(u2 0).v,(u2 2).v,(u2 5).v] = #[pt z,.pointer (some ⟨b4,ob4,none⟩),pt b1]; rw [E2_0,E2_2,E2_5])) (qSetFrac (z:=z) (x:=(x.den:Int)) (y:=x.num) (RatBlk.of B_z) (VP.any _ F4) (RatP.num (VP.any _ F1)) (by first | omega | exact (fun e=>p1 (Rat.num_eq_zero.1 e))) (by first | omega | exact (fun e=>p1 (Rat.num_eq_zero.1 e)))) fun w5 fw5 ow5=>?_
 have sw5:Soft w2 z ∨ Local w2 z:=.inl ⟨_,_,B_z,rfl⟩
 have F_z:=fw5
 replace bel:=bel.trans ow5
 refine wpT_val rfl (ex_assign rfl) ?_
 refine wpList_nil ?_
 show _
 refine K3 _ _ ?_
 refine wp_ret ?_
 refine ret_ok rfl (by exact results_tmp' rfl rfl) ⟨rfl,?_,bel⟩
 exact rat_eq ((Rat.inv_def x).symm) F_z
theorem qAdd {z:Nat} {v1:Value} {v2:Value} (x:Rat) (y:Rat) (hz:RatBlk W z) (t1:(RatP x).p S v1 W) (t2:(RatP y).p S v2 W) (p0:ht x + ht y ≤ 68719476736) :
  Calls Tryz.prog 203 #[.pointer (some ⟨z,0,none⟩),v1,v2] W (RetOwn z (RatP (x + y)) W):=by
 have hS_:∃ S' : Nat → Prop,S' z ∧ (RatP x).p S' v1 W ∧ (RatP y).p S' v2 W:=⟨fun k=>S k ∨ k = z,.inr rfl,(RatP x).mono (fun _ _ h=>.inl h) t1,(RatP y).mono (fun _ _ h=>.inl h) t2⟩
 clear t1 t2
 obtain ⟨S,L_z,t1,t2⟩:=hS_
 replace L_z:Amb S W z:=.inl L_z
 obtain ⟨z_0,z_1,z_2,z_3,B_z⟩:=hz
 obtain ⟨b1,rfl,L1,F1⟩:=RatP.elim t1
 replace L1:Amb S W b1:=.inl L1
 obtain ⟨b2,rfl,L2,F2⟩:=RatP.elim t2
 replace L2:Amb S W b2:=.inl L2
 have n0:=hi_num x
 have n1:=hi_num y
 have n2:=hi_den x
 have n3:=hi_den y
 have m0:=hi_mul x.num (y.den:Int)
 have m1:=hi_mul y.num (x.den:Int)
 have m2:=hi_mul (x.den:Int) (y.den:Int)
 have m3:=hi_add (x.num * (y.den:Int)) (y.num * (x.den:Int))
 have m4:=hi_sub (x.num * (y.den:Int)) (y.num * (x.den:Int))
 have bel:Only z W W:=Only.refl _ _
 go_enter Tryz.func203,Tryz.ntmps203
 refine gs 1 (Amb S W) fun _ K3=>?_
 refine .mc rfl ?_
 refine .dg (fun u=>pt z::pt b1::pt b2::U::U::U::u 0::us 27) K3 bel.size fun u1 w1 D=>?_
 have E1_0:=D.q 0
 replace B_z:=D.k B_z
 replace F1:=D.o L1 F1
 replace F2:=D.o L2 F2
 replace bel:=D.d.base.only0 bel
 clear D
 refine gd 8 (Amb S W) fun _ K4=>?_
 refine .al rfl zI ?_
 refine .mz rfl 1 (V:=pt b1) rfl ?_
 refine .nc rfl 1 ?_
 refine .fj rfl 2 0 ?_
 refine .mz rfl 2 (V:=pt b2) rfl ?_
 refine .cR rfl [] Tryz.func250 (fun H=>⟨_,ar1 (H.g 12 4),bDen _ (H.was _ [] (VP.at F2 L2))⟩) ?_
 refine .cO rfl 0 Tryz.func249 (fun H h0 hz=>⟨_,ar3 (H.p 8 0 h0) (H.g 11 3) (H.r 13 5),bMul _ _ (IntBlk.of hz) (RatP.num (VP.any _ (H.was _ [] (VP.at F1 L1)))) (SV.any (H.a 5 rfl)) (by first | omega | exact den_mul_ne _ _)⟩) ?_
 refine .mo rfl 6 ?_
 refine .dg (fun u=>pt z::pt b1::pt b2::U::U::U::u1 0::u 7::sq u 0 7 (us 19)) K4 bel.size fun u2 w2 D=>?_
 obtain ⟨b5,E2_7,A5,F5⟩:=D.ow 7
 have N_z_b5:=D.n1 0 (lt_of B_z) ((D.a 7 rfl).1.symm.trans E2_7)
 have N1_5:=D.n1 0 (RatP.lt F1) ((D.a 7 rfl).1.symm.trans E2_7)
 have N2_5:=D.n1 0 (RatP.lt F2) ((D.a 7 rfl).1.symm.trans E2_7)
 replace B_z:=D.k B_z
 replace F1:=D.o L1 F1
 replace F2:=D.o L2 F2
 have L5:Amb S W b5:=.inr A5
 replace bel:=D.d.base.only0 bel
 clear D
 refine wp_seq_k fun _ K6=>?_
 refine go2_drawnT (by kernel_rfl) 9 1 rfl (by decide) (by kernel_rfl) (Amb S W) [] [] (Olds.nil _) (by kernel_rfl) ?_
 refine .mz rfl 7 E2_7 ?_
 refine .mz rfl 7 E2_7 ?_
 refine .al rfl zI ?_
 refine .mz rfl 2 (V:=pt b2) rfl ?_
 refine .nc rfl 3 ?_
 refine .fj rfl 4 0 ?_
 refine .mz rfl 1 (V:=pt b1) rfl ?_
 refine .cR rfl [] Tryz.func250 (fun H=>⟨_,ar1 (H.g 21 6),bDen _ (H.was _ [] (VP.at F1 L1))⟩) ?_
 refine .cO rfl 2 Tryz.func249 (fun H h0 hz=>⟨_,ar3 (H.p 17 2 h0) (H.g 20 5) (H.r 22 7),bMul _ _ (IntBlk.of hz) (RatP.num (VP.any _ (H.was _ [] (VP.at F2 L2)))) (SV.any (H.a 7 rfl)) (by first | omega | exact den_mul_ne _ _)⟩) ?_
 refine .dT (fun u=>pt z::pt b1::pt b2::U::U::U::u1 0::u2 7::sq u2 0 7 (sq u 0 10 (us 9))) bel.size _ rfl fun u3 w3 D=>?_
 obtain ⟨b7,E3_8,A7,F7⟩:=D.ow 8
 have E3_0:=D.q 0
 have E3_1:=D.q 1
 have N_z_b7:=D.n1 2 (lt_of B_z) ((D.a 8 rfl).1.symm.trans E3_8)
 have N5_7:=D.n1 2 (IntO.lt F5) ((D.a 8 rfl).1.symm.trans E3_8)
 replace B_z:=D.k B_z
 replace F1:=D.o L1 F1
 replace F2:=D.o L2 F2
 replace F5:=D.o L5 F5
 have L7:Amb S W b7:=.inr A7
 replace bel:=D.d.base.only0 bel
 clear D
 refine wpT_callO (args:=#[pt b5,pt b5,pt b7]) rfl (ex_call rfl rfl Tryz.func261 (by kernel_rfl) (by kernel_rfl) (by simp only [List.map_toArray,List.map_cons,List.map_nil]; show #[(u3 0).v,(u3 1).v,(u3 8).v] = #[pt b5,pt b5,pt b7]; rw [E3_0,E3_1,E3_8])) (bAdd (z:=b5) (x:=x.num * (y.den:Int)) (y:=y.num * (x.den:Int)) (IntO.blk F5) (IntO.p (VP.any _ F5)) (IntO.p (VP.any _ F7)) (by first | omega | exact den_mul_ne _ _)) fun w8 fw8 ow8=>?_
 have sw8:Soft w3 b5 ∨ Local w3 b5:=.inl (IntO.soft F5)
 replace B_z:=ow8.keep B_z N_z_b5
 replace F1:=ow8.one sw8 _ N1_5 F1
 replace F2:=ow8.one sw8 _ N2_5 F2
 replace F7:=ow8.one sw8 _ (Ne.symm N5_7) F7
 have F5:=fw8
 have L5:Amb S W b5:=.inr A5
 replace bel:=Only.other ow8 A5 bel.size bel
 refine wpList_nil ?_
 show _
 refine K6 _ _ ?_
 refine wp_seq_k fun _ K9=>?_
 refine go2_seqT 8 2 rfl (Amb S W) [] [] (Olds.nil _) (by kernel_rfl) ?_
 refine .mz rfl 0 (V:=pt z) rfl ?_
 refine .mz rfl 7 E2_7 ?_
 refine .al rfl zI ?_
 refine .mz rfl 1 (V:=pt b1) rfl ?_
 refine .cR rfl [] Tryz.func250 (fun H=>⟨_,ar1 (H.g 28 3),bDen _ (H.was _ [] (VP.at F1 L1))⟩) ?_
 refine .mz rfl 2 (V:=pt b2) rfl ?_
 refine .cR rfl [] Tryz.func250 (fun H=>⟨_,ar1 (H.g 30 5),bDen _ (H.was _ [] (VP.at F2 L2))⟩) ?_
 refine .cO rfl 2 Tryz.func249 (fun H h0 hz=>⟨_,ar3 (H.p 27 2 h0) (H.r 29 4) (H.r 31 6),bMul _ _ (IntBlk.of hz) (SV.any (H.a 4 rfl)) (SV.any (H.a 6 rfl)) (by first | omega | exact den_mul_ne _ _)⟩) ?_
 refine .dT (fun u=>pt z::pt b1::pt b2::U::U::U::u 9::u2 7::sq u2 0 7 (sq u3 0 9 (.pointer (some ⟨b5,0,none⟩)::sq u 0 9 []))) bel.size _ rfl fun u4 w4 D=>?_
 obtain ⟨b10,E4_7,A10,F10⟩:=D.ow 7
 have E4_0:=D.q 0
 have E4_1:=D.q 1
 have N_z_b10:=D.n1 2 (lt_of B_z) ((D.a 7 rfl).1.symm.trans E4_7)
 have N5_10:=D.n1 2 (IntO.lt F5) ((D.a 7 rfl).1.symm.trans E4_7)
 replace B_z:=D.k B_z
 replace F5:=D.o L5 F5
 have L10:Amb S W b10:=.inr A10
 replace bel:=D.d.base.only0 bel
 clear D
 refine wpT_callO (args:=#[pt z,pt b5,pt b10]) rfl (ex_call rfl rfl Tryz.func234 (by kernel_rfl) (by kernel_rfl) (by simp only [List.map_toArray,List.map_cons,List.map_nil]; show #[(u4 0).v,(u4 1).v,(u4 7).v] = #[pt z,pt b5,pt b10]; rw [E4_0,E4_1,E4_7])) (qSetFrac (z:=z) (x:=(x.num * (y.den:Int)) + (y.num * (x.den:Int))) (y:=(x.den:Int) * (y.den:Int)) (RatBlk.of B_z) (IntO.p (VP.any _ F5)) (IntO.p (VP.any _ F10)) (by first | omega | exact den_mul_ne _ _) (by first | omega | exact den_mul_ne _ _)) fun w11 fw11 ow11=>?_
 have sw11:Soft w4 z ∨ Local w4 z:=.inl ⟨_,_,B_z,rfl⟩
 replace F5:=ow11.one sw11 _ (Ne.symm N_z_b5) F5
 replace F10:=ow11.one sw11 _ (Ne.symm N_z_b10) F10
 have F_z:=fw11
 replace bel:=bel.trans ow11
 refine wpT_val rfl (ex_assign rfl) ?_
 refine wpList_nil ?_
 show _
 refine K9 _ _ ?_
 refine wp_ret ?_
 refine ret_ok rfl (by exact results_tmp' rfl rfl) ⟨rfl,?_,bel⟩
 exact rat_eq (fr_plus x y) F_z
end Go.Proofs.YtcpjdjnaipbieaaGreat
namespace Go.Proofs.YtcpjdjnaipbieaaGreat
open Go.RowKit Rgn
theorem fr_minus (x y:Rat):Rat.divInt (x.num * (y.den:Int) - y.num * (x.den:Int)) ((x.den:Int) * (y.den:Int)) = x - y:=by
 rw [Rat.sub_eq_add_neg,← fr_plus,Rat.neg_num,Rat.neg_den,Int.neg_mul,Int.sub_eq_add_neg]
end Go.Proofs.YtcpjdjnaipbieaaGreat
namespace Go.Proofs.YtcpjdjnaipbieaaGreat
open Go.RowKit Rgn
set_option maxHeartbeats 4000000
set_option maxRecDepth 100000
variable {S:Nat → Prop} {W:World}
theorem qSub {z:Nat} {v1:Value} {v2:Value} (x:Rat) (y:Rat) (hz:RatBlk W z) (t1:(RatP x).p S v1 W) (t2:(RatP y).p S v2 W) (p0:ht x + ht y ≤ 68719476736) :
  Calls Tryz.prog 192 #[.pointer (some ⟨z,0,none⟩),v1,v2] W (RetOwn z (RatP (x - y)) W):=by
 have hS_:∃ S' : Nat → Prop,S' z ∧ (RatP x).p S' v1 W ∧ (RatP y).p S' v2 W:=⟨fun k=>S k ∨ k = z,.inr rfl,(RatP x).mono (fun _ _ h=>.inl h) t1,(RatP y).mono (fun _ _ h=>.inl h) t2⟩
 clear t1 t2
 obtain ⟨S,L_z,t1,t2⟩:=hS_
 replace L_z:Amb S W z:=.inl L_z
 obtain ⟨z_0,z_1,z_2,z_3,B_z⟩:=hz
 obtain ⟨b1,rfl,L1,F1⟩:=RatP.elim t1
 replace L1:Amb S W b1:=.inl L1
 obtain ⟨b2,rfl,L2,F2⟩:=RatP.elim t2
 replace L2:Amb S W b2:=.inl L2
 have n0:=hi_num x
 have n1:=hi_num y
 have n2:=hi_den x
 have n3:=hi_den y
 have m0:=hi_mul x.num (y.den:Int)
 have m1:=hi_mul y.num (x.den:Int)
 have m2:=hi_mul (x.den:Int) (y.den:Int)
 have m3:=hi_add (x.num * (y.den:Int)) (y.num * (x.den:Int))
 have m4:=hi_sub (x.num * (y.den:Int)) (y.num * (x.den:Int))
 have bel:Only z W W:=Only.refl _ _
 go_enter Tryz.func192,Tryz.ntmps192
 refine gs 1 (Amb S W) fun _ K3=>?_
 refine .mc rfl ?_
 refine .dg (fun u=>pt z::pt b1::pt b2::U::U::U::u 0::us 27) K3 bel.size fun u1 w1 D=>?_
 have E1_0:=D.q 0
 replace B_z:=D.k B_z
 replace F1:=D.o L1 F1
 replace F2:=D.o L2 F2
 replace bel:=D.d.base.only0 bel
 clear D
 refine gd 8 (Amb S W) fun _ K4=>?_
 refine .al rfl zI ?_
 refine .mz rfl 1 (V:=pt b1) rfl ?_
 refine .nc rfl 1 ?_
 refine .fj rfl 2 0 ?_
 refine .mz rfl 2 (V:=pt b2) rfl ?_
 refine .cR rfl [] Tryz.func250 (fun H=>⟨_,ar1 (H.g 12 4),bDen _ (H.was _ [] (VP.at F2 L2))⟩) ?_
 refine .cO rfl 0 Tryz.func249 (fun H h0 hz=>⟨_,ar3 (H.p 8 0 h0) (H.g 11 3) (H.r 13 5),bMul _ _ (IntBlk.of hz) (RatP.num (VP.any _ (H.was _ [] (VP.at F1 L1)))) (SV.any (H.a 5 rfl)) (by first | omega | exact den_mul_ne _ _)⟩) ?_
 refine .mo rfl 6 ?_
 refine .dg (fun u=>pt z::pt b1::pt b2::U::U::U::u1 0::u 7::sq u 0 7 (us 19)) K4 bel.size fun u2 w2 D=>?_
 obtain ⟨b5,E2_7,A5,F5⟩:=D.ow 7
 have N_z_b5:=D.n1 0 (lt_of B_z) ((D.a 7 rfl).1.symm.trans E2_7)
 have N1_5:=D.n1 0 (RatP.lt F1) ((D.a 7 rfl).1.symm.trans E2_7)
 have N2_5:=D.n1 0 (RatP.lt F2) ((D.a 7 rfl).1.symm.trans E2_7)
 replace B_z:=D.k B_z
 replace F1:=D.o L1 F1
 replace F2:=D.o L2 F2
 have L5:Amb S W b5:=.inr A5
 replace bel:=D.d.base.only0 bel
 clear D
 refine wp_seq_k fun _ K6=>?_
 refine go2_drawnT (by kernel_rfl) 9 1 rfl (by decide) (by kernel_rfl) (Amb S W) [] [] (Olds.nil _) (by kernel_rfl) ?_
 refine .mz rfl 7 E2_7 ?_
 refine .mz rfl 7 E2_7 ?_
 refine .al rfl zI ?_
 refine .mz rfl 2 (V:=pt b2) rfl ?_
 refine .nc rfl 3 ?_
 refine .fj rfl 4 0 ?_
 refine .mz rfl 1 (V:=pt b1) rfl ?_
 refine .cR rfl [] Tryz.func250 (fun H=>⟨_,ar1 (H.g 21 6),bDen _ (H.was _ [] (VP.at F1 L1))⟩) ?_
 refine .cO rfl 2 Tryz.func249 (fun H h0 hz=>⟨_,ar3 (H.p 17 2 h0) (H.g 20 5) (H.r 22 7),bMul _ _ (IntBlk.of hz) (RatP.num (VP.any _ (H.was _ [] (VP.at F2 L2)))) (SV.any (H.a 7 rfl)) (by first | omega | exact den_mul_ne _ _)⟩) ?_
 refine .dT (fun u=>pt z::pt b1::pt b2::U::U::U::u1 0::u2 7::sq u2 0 7 (sq u 0 10 (us 9))) bel.size _ rfl fun u3 w3 D=>?_
 obtain ⟨b7,E3_8,A7,F7⟩:=D.ow 8
 have E3_0:=D.q 0
 have E3_1:=D.q 1
 have N_z_b7:=D.n1 2 (lt_of B_z) ((D.a 8 rfl).1.symm.trans E3_8)
 have N5_7:=D.n1 2 (IntO.lt F5) ((D.a 8 rfl).1.symm.trans E3_8)
 replace B_z:=D.k B_z
 replace F1:=D.o L1 F1
 replace F2:=D.o L2 F2
 replace F5:=D.o L5 F5
 have L7:Amb S W b7:=.inr A7
 replace bel:=D.d.base.only0 bel
 clear D
 refine wpT_callO (args:=#[pt b5,pt b5,pt b7]) rfl (ex_call rfl rfl Tryz.func255 (by kernel_rfl) (by kernel_rfl) (by simp only [List.map_toArray,List.map_cons,List.map_nil]; show #[(u3 0).v,(u3 1).v,(u3 8).v] = #[pt b5,pt b5,pt b7]; rw [E3_0,E3_1,E3_8])) (bSub (z:=b5) (x:=x.num * (y.den:Int)) (y:=y.num * (x.den:Int)) (IntO.blk F5) (IntO.p (VP.any _ F5)) (IntO.p (VP.any _ F7)) (by first | omega | exact den_mul_ne _ _)) fun w8 fw8 ow8=>?_
 have sw8:Soft w3 b5 ∨ Local w3 b5:=.inl (IntO.soft F5)
 replace B_z:=ow8.keep B_z N_z_b5
 replace F1:=ow8.one sw8 _ N1_5 F1
 replace F2:=ow8.one sw8 _ N2_5 F2
 replace F7:=ow8.one sw8 _ (Ne.symm N5_7) F7
 have F5:=fw8
 have L5:Amb S W b5:=.inr A5
 replace bel:=Only.other ow8 A5 bel.size bel
 refine wpList_nil ?_
 show _
 refine K6 _ _ ?_
 refine wp_seq_k fun _ K9=>?_
 refine go2_seqT 8 2 rfl (Amb S W) [] [] (Olds.nil _) (by kernel_rfl) ?_
 refine .mz rfl 0 (V:=pt z) rfl ?_
 refine .mz rfl 7 E2_7 ?_
 refine .al rfl zI ?_
 refine .mz rfl 1 (V:=pt b1) rfl ?_
 refine .cR rfl [] Tryz.func250 (fun H=>⟨_,ar1 (H.g 28 3),bDen _ (H.was _ [] (VP.at F1 L1))⟩) ?_
 refine .mz rfl 2 (V:=pt b2) rfl ?_
 refine .cR rfl [] Tryz.func250 (fun H=>⟨_,ar1 (H.g 30 5),bDen _ (H.was _ [] (VP.at F2 L2))⟩) ?_
 refine .cO rfl 2 Tryz.func249 (fun H h0 hz=>⟨_,ar3 (H.p 27 2 h0) (H.r 29 4) (H.r 31 6),bMul _ _ (IntBlk.of hz) (SV.any (H.a 4 rfl)) (SV.any (H.a 6 rfl)) (by first | omega | exact den_mul_ne _ _)⟩) ?_
 refine .dT (fun u=>pt z::pt b1::pt b2::U::U::U::u 9::u2 7::sq u2 0 7 (sq u3 0 9 (.pointer (some ⟨b5,0,none⟩)::sq u 0 9 []))) bel.size _ rfl fun u4 w4 D=>?_
 obtain ⟨b10,E4_7,A10,F10⟩:=D.ow 7
 have E4_0:=D.q 0
 have E4_1:=D.q 1
 have N_z_b10:=D.n1 2 (lt_of B_z) ((D.a 7 rfl).1.symm.trans E4_7)
 have N5_10:=D.n1 2 (IntO.lt F5) ((D.a 7 rfl).1.symm.trans E4_7)
 replace B_z:=D.k B_z
 replace F5:=D.o L5 F5
 have L10:Amb S W b10:=.inr A10
 replace bel:=D.d.base.only0 bel
 clear D
 refine wpT_callO (args:=#[pt z,pt b5,pt b10]) rfl (ex_call rfl rfl Tryz.func234 (by kernel_rfl) (by kernel_rfl) (by simp only [List.map_toArray,List.map_cons,List.map_nil]; show #[(u4 0).v,(u4 1).v,(u4 7).v] = #[pt z,pt b5,pt b10]; rw [E4_0,E4_1,E4_7])) (qSetFrac (z:=z) (x:=(x.num * (y.den:Int)) - (y.num * (x.den:Int))) (y:=(x.den:Int) * (y.den:Int)) (RatBlk.of B_z) (IntO.p (VP.any _ F5)) (IntO.p (VP.any _ F10)) (by first | omega | exact den_mul_ne _ _) (by first | omega | exact den_mul_ne _ _)) fun w11 fw11 ow11=>?_
 have sw11:Soft w4 z ∨ Local w4 z:=.inl ⟨_,_,B_z,rfl⟩
 replace F5:=ow11.one sw11 _ (Ne.symm N_z_b5) F5
 replace F10:=ow11.one sw11 _ (Ne.symm N_z_b10) F10
 have F_z:=fw11
 replace bel:=bel.trans ow11
 refine wpT_val rfl (ex_assign rfl) ?_
 refine wpList_nil ?_
 show _
 refine K9 _ _ ?_
 refine wp_ret ?_
 refine ret_ok rfl (by exact results_tmp' rfl rfl) ⟨rfl,?_,bel⟩
 exact rat_eq (fr_minus x y) F_z
end Go.Proofs.YtcpjdjnaipbieaaGreat
namespace Go.Proofs.YtcpjdjnaipbieaaGreat.Rgn
open Go.RowKit
variable {P:Program} {ops:Array Oper} {a0:Act} {w0:World} {B0:Nat} {R0:Nat → Prop} {olds:List (Nat × Nat)} {rp:List (Nat × Pl B0 R0 olds)} {i:Nat} {u:Nat → Got} {w:World} {ρ:Operand → Value}
end Go.Proofs.YtcpjdjnaipbieaaGreat.Rgn
namespace Go.Proofs.YtcpjdjnaipbieaaGreat
theorem hi_i64 {n : Int} (h1 : -9223372036854775808 ≤ n) (h2 : n ≤ 9223372036854775807) : hi n ≤ 65 := by
  unfold hi
  have : bl n.natAbs ≤ 64 := bl_le.2 (by have : (2 : Nat) ^ 64 = 18446744073709551616 := by decide
                                         omega)
  omega
end Go.Proofs.YtcpjdjnaipbieaaGreat
namespace Go.Proofs.YtcpjdjnaipbieaaGreat
open Go.RowKit Rgn
set_option maxHeartbeats 4000000
set_option maxRecDepth 100000
variable {S:Nat → Prop} {W:World}
theorem qNewRat (n:Int) (d:Int) (p0:-9223372036854775808 ≤ n) (p1:n ≤ 9223372036854775807) (p2:-9223372036854775808 ≤ d) (p3:d ≤ 9223372036854775807) (p4:d ≠ 0) :
  Calls Tryz.prog 132 #[.int .i64 n,.int .i64 d] W (Ret (RatP (Rat.divInt n d)) S W):=by
 have n0:=hi_i64 p0 p1
 have n1:=hi_i64 p2 p3
 have bel:=b0 W
 go_enter Tryz.func132,Tryz.ntmps132
 refine gs 1 (Amb S W) fun _ K1=>?_
 refine .mc rfl ?_
 refine .dk (fun u=>.int .i64 n::.int .i64 d::U::U::u 0::us 6) K1 bel fun u1 w1 D bel=>?_
 have E1_0:=D.q 0
 clear D
 refine gs 7 (Amb S W) fun _ K2=>?_
 refine .al rfl zQ ?_
 refine .mz rfl 0 (V:=.int .i64 n) rfl ?_
 refine .cR rfl [] Tryz.func235 (fun H=>⟨_,ar1 (H.g 6 1),bNewInt _ (by first | omega | exact p4) (by first | omega | exact p4)⟩) ?_
 refine .mz rfl 1 (V:=.int .i64 d) rfl ?_
 refine .cR rfl [] Tryz.func235 (fun H=>⟨_,ar1 (H.g 8 3),bNewInt _ (by first | omega | exact p4) (by first | omega | exact p4)⟩) ?_
 refine .cO rfl 0 Tryz.func234 (fun H h0 hz=>⟨_,ar3 (H.p 5 0 h0) (H.r 7 2) (H.r 9 4),qSetFrac _ _ (RatBlk.of hz) (IntO.p (SV.any (H.a 2 rfl))) (IntO.p (SV.any (H.a 4 rfl))) (by first | omega | exact p4) (by first | omega | exact p4)⟩) ?_
 refine .mo rfl 5 ?_
 refine .dk (fun u=>.int .i64 n::.int .i64 d::U::U::u 6::sq u 0 6 []) K2 bel fun u2 w2 D bel=>?_
 obtain ⟨b3,E2_6,A3,F3⟩:=D.ow 6
 have L3:Amb S W b3:=.inr A3
 clear D
 refine wp_ret ?_
 refine ret_ok rfl (by exact results_tmp' rfl (by exact E2_6)) ⟨_,rfl,?_,bel⟩
 exact (VP.at F3 L3)
end Go.Proofs.YtcpjdjnaipbieaaGreat
namespace Go.Proofs.YtcpjdjnaipbieaaGreat
open Go.RowKit Rgn
def HalfAt (cc dd:Value) (w:World) (b:Nat) (n:Int):Prop:=∃ v,w.heap[b]? = some (.cells #[.bool (decide (n < 0)),v,cc,dd] 209 (0,0)) ∧ Mag w v n.natAbs
def HalfO (cc dd:Value) (n:Int):VP :=
  ⟨fun S v w=>∃ b,v = .pointer (some ⟨b,0,none⟩) ∧ S b ∧ HalfAt cc dd w b n,
   fun {S S' v w} hS ⟨b,h1,h2,h3⟩=>⟨b,h1,hS b (by obtain ⟨v,h4,_⟩:=h3; exact lt_of h4) h2,h3⟩,
   fun {S v w w'} h ⟨b,h1,h2,h3⟩=>⟨b,h1,h2,by obtain ⟨v,h4,h5⟩:=h3; exact ⟨v,h.num h2 h4 rfl,h5.grow h⟩⟩⟩
theorem HalfO.at {cc dd:Value} {n:Int} {b:Nat} {S:Nat → Prop} {w} (h:(HalfO cc dd n).p S (.pointer (some ⟨b,0,none⟩)) w):HalfAt cc dd w b n:=by
 obtain ⟨_,e,_,h⟩:=h; cases e; exact h
def HalfBlk (cc dd:Value) (w:World) (z:Nat):Prop:=∃ a b,w.heap[z]? = some (.cells #[a,b,cc,dd] 209 (0,0))
theorem HalfBlk.of {cc dd:Value} {w:World} {b:Nat} {x y:Value} (h:w.heap[b]? = some (.cells #[x,y,cc,dd] 209 (0,0))):HalfBlk cc dd w b:=⟨_,_,h⟩
theorem half_eq {cc dd:Value} {a b:Int} (h:a = b) {S:Nat → Prop} {v:Value} {w:World} (F:(HalfO cc dd a).p S v w):(HalfO cc dd b).p S v w:=h ▸ F
theorem bIsR {cc dd:Value} {W:World} {z:Nat} {v2:Value} (neg:Bool) (n:Nat) (hz:HalfBlk cc dd W z) {S:Nat → Prop} (t2:(RawP n).p S v2 W) :
  Calls Tryz.prog 282 #[.pointer (some ⟨z,0,none⟩),.bool neg,v2] W (RetOwn z (HalfO cc dd (sgn neg n)) W):=by
 obtain ⟨l,hw,rfl⟩:=t2
 obtain ⟨x,y,hB⟩:=hz
 have hcut:=bigcut_any v2 l W hw
 have hM:=cut_mag hw
 obtain ⟨p,m,c,hp,hm0,hm1⟩:=Mag.open hM
 rw [hp] at hcut hM
 have hb1:(neg && val l != 0) = (neg && !decide (val l = 0)):=by cases neg <;> simp [bne]; try (by_cases h:val l = 0 <;> simp [h])
 have hO:Only z W ((W.setCell ⟨z,1,none⟩ (.slice p m c)).setCell ⟨z,0,none⟩ (.bool (neg && val l != 0))):=(setCell_only W ⟨z,1,none⟩ _).trans (setCell_only _ ⟨z,0,none⟩ _)
 have hB1:=setCell_at (o:=1) (v:=.slice p m c) hB
 have hB2:=setCell_at (o:=0) (v:=.bool (neg && val l != 0)) hB1
 have hMag:=MagP (val l) |>.grow (hO.growF (.inl ⟨_,_,hB,rfl⟩)) (S:=fun _=>False) hM
 have HR:RetOwn z (HalfO cc dd (sgn neg (val l))) W (.returned (.pointer (some ⟨z,0,none⟩))) ((W.setCell ⟨z,1,none⟩ (.slice p m c)).setCell ⟨z,0,none⟩ (.bool (neg && val l != 0))):=by
  refine ⟨rfl,⟨z,rfl,rfl,.slice p m c,?_,by rw [sgn_abs]; exact hMag⟩,hO⟩
  rw [hB2,← sgn_neg]; rfl
 have HR:=Lib.hid HR
 have hf1:W.frozen? ⟨z,1,none⟩ = false:=frozen_of hB
 have hf2:=frozen_of (off:=0) hB1
 have hcc1:=cell_of (off:=1) hB rfl
 have hcc2:=cell_of (off:=0) hB1 rfl
 have hcc3:=cell_of (off:=1) hB1 rfl
 have hmI:decide ((0:Int) < (m:Int)) = !decide (val l = 0):=by rw [← len_gt hm0]; simp
 have hm2:=len_gt hm0
 have hcc1' : W.cell? ⟨z,1,none⟩ = some y:=hcc1
 have hcc2' : (W.setCell ⟨z,1,none⟩ (.slice p m c)).cell? ⟨z,0,none⟩ = some x:=hcc2
 have hcc3' : (W.setCell ⟨z,1,none⟩ (.slice p m c)).cell? ⟨z,1,none⟩ = some (.slice p m c):=hcc3
 clear hcc1 hcc2 hcc3 hB1 hp hm0 hB2 hM hMag hO hw
 cases neg with
 | false =>
  simp only [Bool.false_and] at HR
  clear hb1 hm2 hmI
  go_enter Tryz.func282,Tryz.ntmps282
  go_wp2_with fail
  go_call hcut as _ _ ⟨rfl,rfl⟩
  go_wp2_with fail
  exact ret_ok rfl (by exact results_tmp' rfl rfl) HR.out
 | true =>
  simp only [Bool.true_and] at HR hb1
  rw [hb1,← hm2] at HR
  clear hb1 hm2 hmI
  generalize sgn true (val l) = sg at *
  go_enter Tryz.func282,Tryz.ntmps282
  go_wp2_with fail
  go_call hcut as _ _ ⟨rfl,rfl⟩
  go_wp2_with fail
  exact ret_ok rfl (by exact results_tmp' rfl rfl) HR.out
set_option maxHeartbeats 1000000 in
theorem bSetR {cc dd:Value} {S:Nat → Prop} {W:World} {z:Nat} {v1:Value} (x:Int) (hz:HalfBlk cc dd W z) (t1:(IntP x).p S v1 W) (p0:hi x ≤ 1099511627776) :
  Calls Tryz.prog 285 #[.pointer (some ⟨z,0,none⟩),v1] W (RetOwn z (HalfO cc dd x) W):=by
 obtain ⟨z_0,z_1,B_z⟩:=hz
 obtain ⟨b1,ob1,rfl,L1,F1⟩:=IntP.elim t1
 replace L1:Amb S W b1:=.inl L1
 have q0:=hi_bl x
 have bel:Only z W W:=Only.refl _ _
 have nW:W.heap.size ≤ W.heap.size:=Nat.le_refl _
 go_enter Tryz.func285,Tryz.ntmps285
 refine wp_seq_k fun K2 hK2=>?_
 refine go2_seq 1 rfl (Amb S W) [] [] (Olds.nil _) (by kernel_rfl) ?_
 refine Go2.eq (i:=0) rfl (G0 rfl) (V:=.pointer none) (by intro u μ ρ H; have k0:=H.const (.pointer none:Value); clear H; go_simp) ?_
 refine Go2.done (fun u=>⟨#[.pointer (some ⟨z,0,none⟩),.pointer (some ⟨b1,ob1,none⟩),undef,undef,(u 0).v,undef,undef,undef,undef,undef,undef,undef,undef,undef,undef,undef],[]⟩) (fun u=>by kernel_rfl) (by kernel_rfl) fun u1 w1 D=>?_
 have E1_0:(u1 0).v = (.pointer none):=(D.f (.head _))
 replace B_z:=D.base.keep0 B_z
 replace F1:=D.base.one _ L1 F1
 replace bel:=D.base.only0 bel
 replace nW:=Nat.le_trans nW D.base.grow.size
 clear D
 refine hK2 _ _ ?_
 refine wp_seq_k fun K3 hK3=>?_
 refine go2_drawnT (by kernel_rfl) 10 2 rfl (by decide) (by kernel_rfl) (Amb S W) [] [] (Olds.nil _) (by kernel_rfl) ?_
 refine Go2.eq (i:=0) rfl (G0 rfl) (V:=.pointer (some ⟨z,0,none⟩)) (by intro u μ ρ H; have e0:=H.s0 0 (by kernel_rfl); clear H; go_simp) ?_
 refine Go2.eq (i:=1) rfl (G0 rfl) (V:=.pointer (some ⟨b1,ob1,none⟩)) (by intro u μ ρ H; have e1:=H.s0 1 (by kernel_rfl); clear H; go_simp) ?_
 refine Go2.eq (i:=2) rfl (G0 rfl) (V:=.pointer (some ⟨b1,ob1,none⟩)) (by intro u μ ρ H; have e6:=H.e 6 1 (by kernel_rfl) (H.f (.head _) (by kernel_rfl)); clear H; go_simp) ?_
 refine Go2.eq (i:=3) rfl (G0 rfl) (V:=.pointer (some ⟨b1,ob1,none⟩)) (by intro u μ ρ H; have e7:=H.e 7 2 (by kernel_rfl) (H.f (.head _) (by kernel_rfl)); clear H; go_simp) ?_
 refine Go2.eq (i:=4) rfl (G0 rfl) (V:=.bool (decide (x < 0))) (by intro u μ ρ H; have e8:=H.e 8 3 (by kernel_rfl) (H.f (.head _) (by kernel_rfl)); have c1:=IntP.c0 (k:=ob1) (VP.any _ (H.was _ [] (VP.at F1 L1))) rfl; clear H; go_simp) ?_
 refine Go2.eq (i:=5) rfl (G0 rfl) (V:=.pointer (some ⟨b1,ob1,none⟩)) (by intro u μ ρ H; have e1:=H.s0 1 (by kernel_rfl); clear H; go_simp) ?_
 refine Go2.eq (i:=6) rfl (G0 rfl) (V:=.pointer (some ⟨b1,ob1,none⟩)) (by intro u μ ρ H; have e10:=H.e 10 5 (by kernel_rfl) (H.f (.head _) (by kernel_rfl)); clear H; go_simp) ?_
 refine Go2.eq (i:=7) rfl (G0 rfl) (V:=.pointer (some ⟨b1,ob1 + 1,none⟩)) (by intro u μ ρ H; have e11:=H.e 11 6 (by kernel_rfl) (H.f (.head _) (by kernel_rfl)); clear H; go_simp) ?_
 refine Go2.fn (i:=8) rfl (G0 rfl) (.val 8 [] (MagP x.natAbs)) (fun u μ ρ H=>by have e12:=H.e 12 7 (by kernel_rfl) (H.f (.head _) (by kernel_rfl)); obtain ⟨v_,c1,hm_⟩:=IntP.c1 (k:=ob1 + 1) (VP.any _ (H.was _ [] (VP.at F1 L1))) rfl; exact ⟨v_,by clear H hm_; go_simp,SP.magVal hm_⟩) ?_
 refine Go2.grow (i:=9) rfl (G0 rfl) (.val 9 [] (MagP x.natAbs)) (fun u μ ρ H=>by have k0:=H.const (.slice none 0 0:Value); have e13:=H.s 13 8 (by kernel_rfl); obtain ⟨v_,w_,hr_,hm_,hb_⟩:=append_mag 205 (n:=x.natAbs) (show Mag _ (u 8).v _ from (SV.any (H.f (.head _) (by kernel_rfl)))) (by omega); exact ⟨v_,w_,ex_append rfl (H.const _) e13 hr_,SP.magVal hm_,hb_⟩) ?_
 refine Go2.doneT (fun u=>⟨#[.pointer (some ⟨z,0,none⟩),.pointer (some ⟨b1,ob1,none⟩),undef,undef,(u 11).v,(u 0).v,(u 1).v,(u 2).v,(u 3).v,(u 4).v,(u 5).v,(u 6).v,(u 7).v,(u 8).v,(u 9).v,(u 10).v],[]⟩) (fun u _=>by kernel_rfl) (by kernel_rfl) _ rfl fun u2 w2 D=>?_
 obtain ⟨x4,E2_9,F_x4⟩:∃ x_,(u2 9).v = x_ ∧ (MagP x.natAbs).p (Amb S W) x_ w2:=⟨_,rfl,D.r (.head _) (fun k hk=>hk.elim (fun h=>h.1) (fun h=>.inr (Nat.le_trans nW h)))⟩
 have E2_0:(u2 0).v = (.pointer (some ⟨z,0,none⟩)):=(D.f (.tail _ (.tail _ (.tail _ (.tail _ (.tail _ (.tail _ (.tail _ (.tail _ (.tail _ (.head _)))))))))))
 have E2_4:(u2 4).v = (.bool (decide (x < 0))):=(D.f (.tail _ (.tail _ (.tail _ (.tail _ (.tail _ (.head _)))))))
 replace B_z:=D.base.keep0 B_z
 replace bel:=D.base.only0 bel
 replace nW:=Nat.le_trans nW D.base.grow.size
 clear D
 refine wpT_callO (args:=#[.pointer (some ⟨z,0,none⟩),.bool (decide (x < 0)),x4]) rfl (ex_call rfl rfl Tryz.func282 (by kernel_rfl) (by kernel_rfl) (by simp only [List.map_toArray,List.map_cons,List.map_nil]; show #[(u2 0).v,(u2 4).v,(u2 9).v] = #[.pointer (some ⟨z,0,none⟩),.bool (decide (x < 0)),x4]; rw [E2_0,E2_4,E2_9])) (bIsR (cc:=cc) (dd:=dd) (z:=z) (neg:=(decide (x < 0))) (n:=x.natAbs) (HalfBlk.of B_z) (MagP.raw (VP.any _ F_x4)) ) fun w5 fw5 ow5=>?_
 have sw5:Soft w2 z ∨ Local w2 z:=.inl ⟨_,_,B_z,rfl⟩
 have F_z:=fw5
 replace bel:=bel.trans ow5
 replace nW:=Nat.le_trans nW ow5.size
 refine wpT_val rfl (ex_assign rfl) ?_
 refine wpList_nil ?_
 show _
 refine hK3 _ _ ?_
 refine wp_ret ?_
 refine ret_ok rfl (by exact results_tmp' rfl rfl) ⟨rfl,?_,bel⟩
 exact half_eq (sgn_self x) F_z
theorem bNegR {cc dd:Value} {W:World} {z:Nat} {S:Nat → Prop} {v1:Value} (hz:HalfBlk cc dd W z) (x:Int) (t1:(IntP x).p S v1 W) (p0:hi x ≤ 1099511627776) :
  Calls Tryz.prog 254 #[.pointer (some ⟨z,0,none⟩),v1] W (RetOwn z (HalfO cc dd (-x)) W):=by
 have hS:=bSetR x hz t1 p0
 have hT:=fun (w1:World) (h:(HalfO cc dd x).p (· = z) (.pointer (some ⟨z,0,none⟩)) w1)=>HalfO.at h
 have hN:=neg_cell x
 have hA:=Int.natAbs_neg x
 go_enter Tryz.func254,Tryz.ntmps254
 go_wp2_with fail
 go_call hS as _ w1 ⟨rfl,hf,ho⟩
 obtain ⟨v,hB,hM⟩:=hT w1 hf
 obtain ⟨p,m,c,rfl,hm0,hm1⟩:=Mag.open hM
 have hm:=len_gt hm0
 have hO:Only z w1 (w1.setCell ⟨z,0,none⟩ (.bool (decide (-x < 0)))):=setCell_only _ ⟨z,0,none⟩ _
 have hB2:=setCell_at (o:=0) (v:=.bool (decide (-x < 0))) hB
 have hMag:=MagP x.natAbs |>.grow (hO.growF (.inl ⟨_,_,hB,rfl⟩)) (S:=fun _=>False) hM
 have HR:RetOwn z (HalfO cc dd (-x)) W (.returned (.pointer (some ⟨z,0,none⟩))) (w1.setCell ⟨z,0,none⟩ (.bool (decide (-x < 0)))) :=
  ⟨rfl,⟨z,rfl,rfl,.slice p m c,hB2,by rw [Int.natAbs_neg]; exact hMag⟩,ho.trans hO⟩
 rw [← hN,← hm] at HR
 have HR:=Lib.hid HR
 have hf1:w1.frozen? ⟨z,0,none⟩ = false:=frozen_of hB
 have hcc0:w1.cell? ⟨z,0,none⟩ = some (.bool (decide (x < 0))):=cell_of (off:=0) hB rfl
 have hcc1:w1.cell? ⟨z,1,none⟩ = some (.slice p m c):=cell_of (off:=1) hB rfl
 clear hO hB2 hMag hB hM hT hN hA hm0 hm1 hm hf ho hS p0 t1 hz
 generalize decide (x < 0) = q at *
 cases q with
 | true =>
  go_wp2_with fail
  exact ret_ok rfl (by exact results_tmp' rfl rfl) HR.out
 | false =>
  go_wp2_with fail
  exact ret_ok rfl (by exact results_tmp' rfl rfl) HR.out
def RatF (q:Rat):VP :=
  ⟨fun S v w=>∃ b,v = .pointer (some ⟨b,0,none⟩) ∧ S b ∧ RatAt w b q,
   fun {S S' v w} hS ⟨b,h1,h2,h3⟩=>⟨b,h1,hS b (by obtain ⟨_,_,h4,_⟩:=h3; exact lt_of h4) h2,h3⟩,
   fun {S v w w'} h ⟨b,h1,h2,h3⟩=>⟨b,h1,h2,h3.grow h2 h⟩⟩
theorem RatF.of {q:Rat} {d:Int} (h' : d = (q.den:Int)) {z:Nat} {w:World} {v1 v2:Value}
  (hB:w.heap[z]? = some (.cells #[.bool (decide (q.num < 0)),v1,.bool (decide (d < 0)),v2] 209 (0,0))) (h1:Mag w v1 q.num.natAbs) (h2:Mag w v2 d.natAbs) :
  (RatF q).p (· = z) (.pointer (some ⟨z,0,none⟩)) w:=by
 subst h'
 rw [decide_eq_false (show ¬ (q.den:Int) < 0 by omega)] at hB
 exact ⟨z,rfl,rfl,v1,v2,hB,h1,h2⟩
theorem RatF.at {q:Rat} {b:Nat} {S:Nat → Prop} {w} (h:(RatF q).p S (.pointer (some ⟨b,0,none⟩)) w):RatAt w b q:=by
 obtain ⟨_,e,_,h⟩:=h; cases e; exact h
theorem RatF.p {q S v w} (h:(RatF q).p S v w):(RatP q).p S v w:=by
 obtain ⟨b,h1,h2,h3⟩:=h; exact ⟨b,h1,h2,.inl h3⟩
set_option maxHeartbeats 1000000 in
theorem qSetF {S:Nat → Prop} {W:World} {z:Nat} {v1:Value} (x:Rat) (hz:RatBlk W z) (t1:(RatP x).p S v1 W) (p0:ht x ≤ 68719476736) :
  Calls Tryz.prog 253 #[.pointer (some ⟨z,0,none⟩),v1] W (RetOwn z (RatF x) W):=by
 have hS_:∃ S' : Nat → Prop,S' z ∧ (RatP x).p S' v1 W:=⟨fun k=>S k ∨ k = z,.inr rfl,(RatP x).mono (fun _ _ h=>.inl h) t1⟩
 clear t1
 obtain ⟨S,L_z,t1⟩:=hS_
 replace L_z:Amb S W z:=.inl L_z
 obtain ⟨z_0,z_1,z_2,z_3,B_z⟩:=hz
 obtain ⟨b1,rfl,L1,F1⟩:=RatP.elim t1
 replace L1:Amb S W b1:=.inl L1
 have n0:=hi_num x
 have n2:=hi_den x
 have bel:Only z W W:=Only.refl _ _
 have nW:W.heap.size ≤ W.heap.size:=Nat.le_refl _
 go_enter Tryz.func253,Tryz.ntmps253
 refine wp_seq_k fun K2 hK2=>?_
 refine go2_seq 1 rfl (Amb S W) [] [] (Olds.nil _) (by kernel_rfl) ?_
 refine Go2.eq (i:=0) rfl (G0 rfl) (V:=.pointer none) (by intro u μ ρ H; have k0:=H.const (.pointer none:Value); clear H; go_simp) ?_
 refine Go2.done (fun u=>⟨#[.pointer (some ⟨z,0,none⟩),.pointer (some ⟨b1,0,none⟩),undef,undef,(u 0).v,undef,undef,undef,undef,undef,undef,undef,undef,undef,undef,undef,undef,undef,undef,undef,undef,undef,undef,undef,undef,undef,undef,undef,undef],[]⟩) (fun u=>by kernel_rfl) (by kernel_rfl) fun u1 w1 D=>?_
 have E1_0:(u1 0).v = (.pointer none):=(D.f (.head _))
 replace B_z:=D.base.keep0 B_z
 replace F1:=D.base.one _ L1 F1
 replace bel:=D.base.only0 bel
 replace nW:=Nat.le_trans nW D.base.grow.size
 clear D
 refine hK2 _ _ ?_
 refine wp_seq_k fun K3 hK3=>?_
 refine go2_seq 11 rfl (Amb S W) [] [] (Olds.nil _) (by kernel_rfl) ?_
 refine Go2.alloc (i:=0) rfl rfl (c:=#[.bool false,.slice none 0 0]) (T:=207) (by intro u μ ρ H; clear H; go_simp) ?_
 refine Go2.eq (i:=1) rfl (G0 rfl) (V:=.pointer (some ⟨b1,0,none⟩)) (by intro u μ ρ H; have e1:=H.s0 1 (by kernel_rfl); clear H; go_simp) ?_
 refine Go2.eq (i:=2) rfl (G0 rfl) (V:=.pointer (some ⟨b1,0,none⟩)) (by intro u μ ρ H; have e8:=H.e 8 1 (by kernel_rfl) (H.f (.head _) (by kernel_rfl)); clear H; go_simp) ?_
 refine Go2.eq (i:=3) rfl (G0 rfl) (V:=.pointer (some ⟨b1,0,none⟩)) (by intro u μ ρ H; have e9:=H.e 9 2 (by kernel_rfl) (H.f (.head _) (by kernel_rfl)); clear H; go_simp) ?_
 refine Go2.callO (i:=4) (m:=0) rfl rfl (.tail _ (.tail _ (.tail _ (.head _)))) rfl (IntO x.num) (f:=285) (fun u μ ρ b H h0 hz=>⟨#[.pointer (some ⟨b,0,none⟩),.pointer (some ⟨b1,0,none⟩)],by have e7:=H.s 7 0 (by kernel_rfl); have e10:=H.e 10 3 (by kernel_rfl) (H.f (.head _) (by kernel_rfl)); rw [h0] at e7; exact ex_call rfl (H.func _) Tryz.func285 (by kernel_rfl) (by kernel_rfl) (by simp only [List.map_toArray,List.map_cons,List.map_nil,e7,e10]),bSet (z:=b) (x:=x.num) (IntBlk.of hz) (RatP.num (VP.any _ (H.was _ [] (VP.at F1 L1)))) (by omega)⟩) ?_
 refine Go2.alloc (i:=5) rfl rfl (c:=#[.bool false,.slice none 0 0]) (T:=207) (by intro u μ ρ H; clear H; go_simp) ?_
 refine Go2.eq (i:=6) rfl (G0 rfl) (V:=.pointer (some ⟨b1,0,none⟩)) (by intro u μ ρ H; have e1:=H.s0 1 (by kernel_rfl); clear H; go_simp) ?_
 refine Go2.callR (i:=7) rfl (G0 rfl) [] rfl (IntP (x.den:Int)) (f:=250) (fun u μ ρ H=>⟨#[.pointer (some ⟨b1,0,none⟩)],by have e13:=H.e 13 6 (by kernel_rfl) (H.f (.head _) (by kernel_rfl)); exact ex_call rfl (H.func _) Tryz.func250 (by kernel_rfl) (by kernel_rfl) (by simp only [List.map_toArray,List.map_cons,List.map_nil,e13]),bDen (q:=x) (H.was _ [] (VP.at F1 L1)) ⟩) ?_
 refine Go2.callO (i:=8) (m:=5) rfl rfl (.tail _ (.tail _ (.head _))) rfl (IntO (x.den:Int)) (f:=285) (fun u μ ρ b H h0 hz=>⟨#[.pointer (some ⟨b,0,none⟩),(u 7).v],by have e12:=H.s 12 5 (by kernel_rfl); have e14:=H.s 14 7 (by kernel_rfl); rw [h0] at e12; exact ex_call rfl (H.func _) Tryz.func285 (by kernel_rfl) (by kernel_rfl) (by simp only [List.map_toArray,List.map_cons,List.map_nil,e12,e14]),bSet (z:=b) (x:=(x.den:Int)) (IntBlk.of hz) (SV.any (H.f (.head _) (by kernel_rfl))) (by omega)⟩) ?_
 refine Go2.fn (i:=9) rfl (G0 rfl) (.own 9 0 (IntO x.num)) (fun u μ ρ H=>⟨(u 4).v,by have e11:=H.s 11 4 (by kernel_rfl); clear H; go_simp,Own.keep rfl rfl (H.f (.tail _ (.tail _ (.tail _ (.tail _ (.head _))))) (by kernel_rfl))⟩) ?_
 refine Go2.fn (i:=10) rfl (G0 rfl) (.own 10 5 (IntO (x.den:Int))) (fun u μ ρ H=>⟨(u 8).v,by have e15:=H.s 15 8 (by kernel_rfl); clear H; go_simp,Own.keep rfl rfl (H.f (.tail _ (.head _)) (by kernel_rfl))⟩) ?_
 refine Go2.done (fun u=>⟨#[.pointer (some ⟨z,0,none⟩),.pointer (some ⟨b1,0,none⟩),undef,undef,(u1 0).v,(u 9).v,(u 10).v,(u 0).v,(u 1).v,(u 2).v,(u 3).v,(u 4).v,(u 5).v,(u 6).v,(u 7).v,(u 8).v,undef,undef,undef,undef,undef,undef,undef,undef,undef,undef,undef,undef,undef],[]⟩) (fun u=>by kernel_rfl) (by kernel_rfl) fun u2 w2 D=>?_
 obtain ⟨E2_9,b4,eM,A4,F4⟩:=(D.f (.tail _ (.head _)))
 replace E2_9:=E2_9.trans eM
 clear eM
 obtain ⟨E2_10,b5,eM,A5,F5⟩:=(D.f (.head _))
 replace E2_10:=E2_10.trans eM
 clear eM
 have N_z_b4:z ≠ b4:=Nat.ne_of_lt (Nat.lt_of_lt_of_le (lt_of B_z) A4)
 have N_z_b5:z ≠ b5:=Nat.ne_of_lt (Nat.lt_of_lt_of_le (lt_of B_z) A5)
 replace B_z:=D.base.keep0 B_z
 replace A4:=Nat.le_trans nW A4
 have L4:Amb S W b4:=.inr A4
 replace A5:=Nat.le_trans nW A5
 have L5:Amb S W b5:=.inr A5
 replace bel:=D.base.only0 bel
 replace nW:=Nat.le_trans nW D.base.grow.size
 clear D
 refine hK3 _ _ ?_
 refine wp_seq_k fun K6 hK6=>?_
 refine go2_drawnT (by kernel_rfl) 13 1 rfl (by decide) (by kernel_rfl) (fun k=>Amb S W k ∧ k ≠ z) [(z,10)] [10] (Olds.one (lt_of B_z)) (by kernel_rfl) ?_
 refine Go2.eq (i:=0) rfl (G0 rfl) (V:=.pointer (some ⟨z,0,none⟩)) (by intro u μ ρ H; have e0:=H.s0 0 (by kernel_rfl); clear H; go_simp) ?_
 refine Go2.eq (i:=1) rfl (G0 rfl) (V:=.pointer (some ⟨z,0,none⟩)) (by intro u μ ρ H; have e0:=H.s0 0 (by kernel_rfl); clear H; go_simp) ?_
 refine Go2.eq (i:=2) rfl (G0 rfl) (V:=.pointer (some ⟨b4,0,none⟩)) (by intro u μ ρ H; have e5:=(H.s0 5 (by kernel_rfl)).trans E2_9; clear H; go_simp) ?_
 refine Go2.eq (i:=3) rfl (G0 rfl) (V:=.pointer (some ⟨b4,0,none⟩)) (by intro u μ ρ H; have e18:=H.e 18 2 (by kernel_rfl) (H.f (.head _) (by kernel_rfl)); clear H; go_simp) ?_
 refine Go2.fn (i:=4) rfl (G0 rfl) (.val 4 [] (IntV x.num)) (fun u μ ρ H=>by have e19:=H.e 19 3 (by kernel_rfl) (H.f (.head _) (by kernel_rfl)); obtain ⟨v_,hB_,hm_⟩:=IntO.at (VP.any _ (H.was _ [] (VP.at F4 (And.intro L4 (Ne.symm N_z_b4))))); exact ⟨_,ex_load_row 207 _ rfl e19 hB_ Tryz.underlying207 rfl (by kernel_rfl),SP.intV hm_⟩) ?_
 refine Go2.eq (i:=5) rfl (G0 rfl) (V:=.pointer (some ⟨b5,0,none⟩)) (by intro u μ ρ H; have e6:=(H.s0 6 (by kernel_rfl)).trans E2_10; clear H; go_simp) ?_
 refine Go2.eq (i:=6) rfl (G0 rfl) (V:=.pointer (some ⟨b5,0,none⟩)) (by intro u μ ρ H; have e21:=H.e 21 5 (by kernel_rfl) (H.f (.head _) (by kernel_rfl)); clear H; go_simp) ?_
 refine Go2.fn (i:=7) rfl (G0 rfl) (.val 7 [] (IntV (x.den:Int))) (fun u μ ρ H=>by have e22:=H.e 22 6 (by kernel_rfl) (H.f (.head _) (by kernel_rfl)); obtain ⟨v_,hB_,hm_⟩:=IntO.at (VP.any _ (H.was _ [] (VP.at F5 (And.intro L5 (Ne.symm N_z_b5))))); exact ⟨_,ex_load_row 207 _ rfl e22 hB_ Tryz.underlying207 rfl (by kernel_rfl),SP.intV hm_⟩) ?_
 refine Go2.eq (i:=8) rfl (G0 rfl) (V:=.pointer (some ⟨z,0,none⟩)) (by intro u μ ρ H; have e16:=H.e 16 0 (by kernel_rfl) (H.f (.tail _ (.tail _ (.tail _ (.tail _ (.tail _ (.tail _ (.tail _ (.head _)))))))) (by kernel_rfl)); clear H; go_simp) ?_
 refine Go2.eq (i:=9) rfl (G0 rfl) (V:=.pointer (some ⟨z,0,none⟩)) (by intro u μ ρ H; have e24:=H.e 24 8 (by kernel_rfl) (H.f (.head _) (by kernel_rfl)); clear H; go_simp) ?_
 refine Go2.storeSoft (i:=10) 0 z rfl rfl rfl ⟨_,_,B_z,rfl⟩ (fun h=>h.2 rfl) (SP.old 0 z [4] (fun u=>#[.bool (decide (x.num < 0)),((u 4).v.cells.getD 1 undef),z_2,z_3]) 209 (by intro u u' h; simp [h 4 (by simp)]) (lt_of B_z) (by intro y k hy; match y,hy with | 0,hy=>rfl)) (fun u μ ρ H=>?_) ?_
 ·have e25:=H.e 25 9 (by kernel_rfl) (H.f (.head _) (by kernel_rfl)); have e20:=H.s 20 4 (by kernel_rfl); have hb:=H.blkOld B_z 0 10 rfl (.inl rfl)
  obtain ⟨x1,x2,h1,h2,h3⟩:=(H.f (.tail _ (.tail _ (.tail _ (.tail _ (.tail _ (.head _)))))) (by kernel_rfl))
  obtain rfl:x1 = _:=h2
  have o2:=VP1.mag h3
  rw [h1] at e20
  refine ⟨μ.setRow z #[.bool (decide (x.num < 0)),x2,z_2,z_3],ex_store_part 207 _ _ rfl e25 e20 hb (by kernel_rfl) (by simp) (by simp [o2] <;> rfl) (by simp),fun g=>?_,setRow_only _ _ _⟩
  show (World.setRow _ _ _).heap[z]? = _
  rw [setRow_at hb]; try simp [upd,h1,Value.cells]
 refine Go2.eq (i:=11) rfl (G0 rfl) (V:=.pointer (some ⟨z,0,none⟩)) (by intro u μ ρ H; have e17:=H.e 17 1 (by kernel_rfl) (H.f (.tail _ (.tail _ (.tail _ (.tail _ (.tail _ (.tail _ (.tail _ (.tail _ (.tail _ (.head _)))))))))) (by kernel_rfl)); clear H; go_simp) ?_
 refine Go2.eq (i:=12) rfl (G0 rfl) (V:=.pointer (some ⟨z,2,none⟩)) (by intro u μ ρ H; have e26:=H.e 26 11 (by kernel_rfl) (H.f (.head _) (by kernel_rfl)); clear H; go_simp) ?_
 refine Go2.doneT (fun u=>⟨#[.pointer (some ⟨z,0,none⟩),.pointer (some ⟨b1,0,none⟩),undef,undef,(u1 0).v,(u2 9).v,(u2 10).v,(u2 0).v,(u2 1).v,(u2 2).v,(u2 3).v,(u2 4).v,(u2 5).v,(u2 6).v,(u2 7).v,(u2 8).v,(u 0).v,(u 1).v,(u 2).v,(u 3).v,(u 4).v,(u 5).v,(u 6).v,(u 7).v,(u 8).v,(u 9).v,(u 11).v,(u 12).v,undef],[]⟩) (fun u _=>by kernel_rfl) (by kernel_rfl) _ rfl fun u3 w3 D=>?_
 obtain ⟨x7,x8,E3_4,e_,F_x8⟩:=(D.r (S:=Amb S W) (.tail _ (.tail _ (.tail _ (.tail _ (.tail _ (.tail _ (.tail _ (.tail _ (.head _))))))))) (fun k hk=>hk.elim (fun h=>h.1.1) (fun h=>.inr (Nat.le_trans nW h))))
 obtain rfl:x7 = _:=e_
 replace F_x8:(MagP x.num.natAbs).p (Amb S W) x8 w3:=F_x8
 obtain ⟨x9,x10,E3_7,e_,F_x10⟩:=(D.r (S:=Amb S W) (.tail _ (.tail _ (.tail _ (.tail _ (.tail _ (.head _)))))) (fun k hk=>hk.elim (fun h=>h.1.1) (fun h=>.inr (Nat.le_trans nW h))))
 obtain rfl:x9 = _:=e_
 replace F_x10:(MagP (x.den:Int).natAbs).p (Amb S W) x10 w3:=F_x10
 have E3_12:(u3 12).v = (.pointer (some ⟨z,2,none⟩)):=(D.f (.head _))
 replace B_z:w3.heap[z]? = _:=(D.f (.tail _ (.tail _ (.head _))))
 simp only [Value.cells,E3_4,E3_7] at B_z
 replace bel:=bel.trans ⟨D.base.grow.os,D.base.grow.tape,D.base.grow.output,D.base.grow.size,fun k hk hz=>D.base.block k hk (fun x_ i_ hx_=>by have h_:=List.mem_of_getElem? hx_; simp at h_; exact hz h_.1)⟩
 replace nW:=Nat.le_trans nW D.base.grow.size
 clear D
 have o1_:=VP1.mag F_x10
 refine wpT_skip rfl (ex_store_part 207 _ _ rfl (by exact E3_12) (by exact E3_7) B_z (by kernel_rfl) (by simp) (by simp [o1_] <;> rfl) (vs:=#[.bool (decide (x.num < 0)),x8,.bool (decide ((x.den:Int) < 0)),x10]) (by simp)) ?_
 have ow11:=setRow_only w3 z #[.bool (decide (x.num < 0)),x8,.bool (decide ((x.den:Int) < 0)),x10]
 have sw11:Soft w3 z ∨ Local w3 z:=.inl ⟨_,_,B_z,rfl⟩
 replace B_z:=setRow_at (c' := #[.bool (decide (x.num < 0)),x8,.bool (decide ((x.den:Int) < 0)),x10]) B_z
 replace F_x8:=(MagP x.num.natAbs).grow (S:=fun _=>False) (Rgn.Only.growF ow11 sw11) F_x8
 replace F_x10:=(MagP ((x.den:Int).natAbs)).grow (S:=fun _=>False) (Rgn.Only.growF ow11 sw11) F_x10
 replace bel:=bel.trans ow11
 replace nW:=Nat.le_trans nW ow11.size
 obtain ⟨w11,hw11⟩:∃ x_,x_ = w3.setRow z #[.bool (decide (x.num < 0)),x8,.bool (decide ((x.den:Int) < 0)),x10]:=⟨_,rfl⟩
 rw [← hw11] at B_z
 rw [← hw11] at F_x8
 rw [← hw11] at F_x10
 rw [← hw11] at bel
 rw [← hw11] at nW
 rw [← hw11]
 clear hw11
 refine wpList_nil ?_
 show _
 refine hK6 _ _ ?_
 refine wp_seq_k fun K12 hK12=>?_
 refine go2_seq 2 rfl (Amb S W) [] [] (Olds.nil _) (by kernel_rfl) ?_
 refine Go2.eq (i:=0) rfl (G0 rfl) (V:=.pointer (some ⟨z,0,none⟩)) (by intro u μ ρ H; have e0:=H.s0 0 (by kernel_rfl); clear H; go_simp) ?_
 refine Go2.eq (i:=1) rfl (G0 rfl) (V:=.pointer (some ⟨z,0,none⟩)) (by intro u μ ρ H; have e28:=H.e 28 0 (by kernel_rfl) (H.f (.head _) (by kernel_rfl)); clear H; go_simp) ?_
 refine Go2.done (fun u=>⟨#[.pointer (some ⟨z,0,none⟩),.pointer (some ⟨b1,0,none⟩),undef,undef,(u 1).v,(u2 9).v,(u2 10).v,(u2 0).v,(u2 1).v,(u2 2).v,(u2 3).v,(u2 4).v,(u2 5).v,(u2 6).v,(u2 7).v,(u2 8).v,(u3 0).v,(u3 1).v,(u3 2).v,(u3 3).v,(u3 4).v,(u3 5).v,(u3 6).v,(u3 7).v,(u3 8).v,(u3 9).v,(u3 11).v,(u3 12).v,(u 0).v],[]⟩) (fun u=>by kernel_rfl) (by kernel_rfl) fun u4 w4 D=>?_
 have E4_1:(u4 1).v = (.pointer (some ⟨z,0,none⟩)):=(D.f (.head _))
 replace B_z:=D.base.keep0 B_z
 replace F_x8:=(MagP x.num.natAbs).grow D.base.growAll F_x8
 replace F_x10:=(MagP ((x.den:Int).natAbs)).grow D.base.growAll F_x10
 replace bel:=D.base.only0 bel
 replace nW:=Nat.le_trans nW D.base.grow.size
 clear D
 refine hK12 _ _ ?_
 refine wp_ret ?_
 exact ret_ok rfl (by exact results_tmp' rfl (by exact E4_1)) ⟨rfl,RatF.of rfl B_z F_x8 F_x10,bel⟩
set_option maxRecDepth 100000 in
set_option maxHeartbeats 1000000 in
theorem qNeg {S:Nat → Prop} {W:World} {z:Nat} {v1:Value} (x:Rat) (hz:RatBlk W z) (t1:(RatP x).p S v1 W) (p0:ht x ≤ 68719476736) :
  Calls Tryz.prog 189 #[.pointer (some ⟨z,0,none⟩),v1] W (RetOwn z (RatP (-x)) W):=by
 have hS:=qSetF x hz t1 p0
 have n0:=hi_num x
 have hT:=fun (w1:World) (h:(RatF x).p (· = z) (.pointer (some ⟨z,0,none⟩)) w1)=>RatF.at h
 have hN:=fun (w1:World) (cc dd:Value) (hh:HalfBlk cc dd w1 z) (h:(RatF x).p (· = z) (.pointer (some ⟨z,0,none⟩)) w1)=>bNegR hh x.num (RatP.num (RatF.p h)) (by omega)
 go_enter Tryz.func189,Tryz.ntmps189
 go_wp2_with fail
 go_call hS as _ w1 ⟨rfl,hf,ho⟩
 obtain ⟨u1,u2,hB,hm1,hm2⟩:=hT w1 hf
 have hB' : w1.drew.heap[z]? = _:=hB
 have hN:=hN w1.drew _ _ (HalfBlk.of hB') hf
 have hs:Soft w1.drew z ∨ Local w1.drew z:=.inl ⟨_,_,hB', rfl⟩
 have hm3:Mag w1.drew u2 x.den:=hm2
 clear hT hS t1 hz
 go_wp2_with fail
 go_still_tail 6,(by kernel_rfl)
 go_wp2_with fail
 go_call hN as _ w2 ⟨rfl,hf2,ho2⟩
 go_wp2_with fail
 refine ret_ok rfl (by exact results_tmp' rfl rfl) ⟨rfl,?_,(ho.trans (show Only z w1 w1.drew from ⟨rfl,rfl,rfl,Nat.le_refl _,fun _ _ _=>rfl⟩)).trans ho2⟩
 obtain ⟨v', g1,g2⟩:=HalfO.at hf2
 have g3:=(MagP x.den).grow (S:=fun _=>False) (ho2.growF hs) hm3
 refine ⟨z,rfl,rfl,.inl ⟨v', u2,?_,?_,?_⟩⟩
 ·rw [Rat.neg_num]; exact g1
 ·rw [Rat.neg_num]; exact g2
 ·rw [Rat.neg_den]; exact g3
@[go_sem] theorem sq_0 (u:Nat → Got) (a:Nat) (l:List Value):sq u a 0 l = l:=rfl
@[go_sem] theorem sq_1 (u:Nat → Got) (a n:Nat) (l:List Value):sq u a (n + 1) l = (u a).v :: sq u (a + 1) n l:=rfl
theorem ex_conv {P:Program} {ρ:Operand → Value} {o:Oper} {w w' : World} {a b:TypeId} {x:Operand} {v v' : Value} (ho:o.op = .convert a b x) (hx:ρ x = v) (h:(convert a b v).run P w = .ok v' w'):(execOp ρ o).run P w = .ok (.value v') w' := by
 subst hx
 unfold execOp
 simp only [ho]
 simp [h,Result.andThen]
theorem results_mix {P:Program} {fn:Func} {p q ty:Nat} {tmps:Array Value} {w:World} {g:Nat} {v:Value} (hf:fn.results = #[.cell p ty,.tmp q]) (hp:tmps.getD p undef = .pointer (some ⟨g,0,none⟩)) {t:TypeId} {cs:Array Value} {fr:Nat × Nat} (hg:w.heap[g]? = some (.cells cs t fr))
  {d:TypeDesc} (hu:P.underlying ty = some d) (hd:(match d with | .struct _ | .array _ _=>true | _=>false) = true) (hi:(P.info? ty).map (·.size) = some cs.size) (h:tmps.getD q undef = v):(results fn tmps).run P w = .ok (.tuple #[.agg cs,v]) w:=by
 have hp:tmps[p]?.getD undef = .pointer (some ⟨g,0,none⟩):=by simpa using hp
 have h:tmps[q]?.getD undef = v:=by simpa using h
 have hl:=run_loadVar_row (P:=P) w g t ty cs fr d hg hu hd hi
 simp only [results,hf]
 simp [hp,hl,h,asAddr]
theorem Rgn.SP.bytVal {B0:Nat} {R0:Nat → Prop} {olds:List (Nat × Nat)} {i:Nat} {near:List Nat} {n a b:Nat} {u:Nat → Got} {w:World} {v:Value} (h:(BytP n).p Any v w) :
  (SP.val (B0:=B0) (R0:=R0) (olds:=olds) i near (BytP n)).p (upd u i ⟨v,a,b⟩) w:=by
 show Byts w (upd u i _ i).v (bytesOf n)
 rw [upd_same]; exact h
theorem wpList_as {P:Program} {ops:Array Oper} {Q:Exit → Act → World → Prop} {rest:List Oper} {w:World} {a:Act} (a' : Act) (h:a = a') (H:wpList P ops Q rest a' w):wpList P ops Q rest a w:=h ▸ H
theorem num_n {x:Int} (h:x < 0):-((x.natAbs:Nat):Int) = x:=by omega
theorem num_p {x:Int} (h:¬ x < 0):((x.natAbs:Nat):Int) = x:=by omega
theorem sign_lt (x:Int):decide (x.sign < 0) = decide (x < 0):=by
 have:=sign3 x
 by_cases h:x < 0
 ·rw [decide_eq_true h,decide_eq_true]; omega
 ·rw [decide_eq_false h,decide_eq_false]; omega
theorem fr_self (x:Rat):Rat.divInt x.num (x.den:Int) = x:=Rat.num_divInt_den x
def fcut (q:Rat):RF:=if fits (rf q) then rf q else ⟨⟨false,⟨#[]⟩⟩,⟨false,⟨#[]⟩⟩⟩
def ferr (q:Rat):Int:=if fits (rf q) then 0 else 4
theorem fcut_1 {q:Rat} (h:decide (1024 < (((bS q.num.natAbs).size:Nat):Int)) = false) (h' : decide (1024 < (((bS (q.den:Int).natAbs).size:Nat):Int)) = false):fits (rf q) = true:=by
 have h:=of_decide_eq_false h
 have h' := of_decide_eq_false h'
 unfold fits
 rw [Bool.and_eq_true,decide_eq_true_eq,decide_eq_true_eq]
 show (bS q.num.natAbs).size ≤ 1024 ∧ (bS (q.den:Int).natAbs).size ≤ 1024
 omega
theorem fcut_2 {q:Rat} (h:decide (1024 < (((bS q.num.natAbs).size:Nat):Int)) = true):fits (rf q) = false:=by
 have h:=of_decide_eq_true h
 unfold fits
 rw [Bool.and_eq_false_iff,decide_eq_false_iff_not]
 refine .inl ?_
 show ¬ (bS q.num.natAbs).size ≤ 1024
 omega
theorem fcut_3 {q:Rat} (h:decide (1024 < (((bS (q.den:Int).natAbs).size:Nat):Int)) = true):fits (rf q) = false:=by
 have h:=of_decide_eq_true h
 unfold fits
 rw [Bool.and_eq_false_iff,decide_eq_false_iff_not,decide_eq_false_iff_not]
 refine .inr ?_
 show ¬ (bS (q.den:Int).natAbs).size ≤ 1024
 omega
theorem fcut_no {q:Rat} (h:fits (rf q) = false):Value.tuple #[.agg #[.bool false,.string ⟨#[]⟩,.bool false,.string ⟨#[]⟩],.int .i64 4] = .tuple #[.agg #[.bool (fcut q).a.n,.string (fcut q).a.s,.bool (fcut q).b.n,.string (fcut q).b.s],.int .i64 (ferr q)]:=by
 unfold fcut ferr; rw [if_neg (by rw [h]; decide),if_neg (by rw [h]; decide)]
theorem fcut_yes {q:Rat} (h:fits (rf q) = true):Value.tuple #[.agg #[.bool (decide (q.num < 0)),.string (bS q.num.natAbs),.bool (decide ((q.den:Int) < 0)),.string (bS (q.den:Int).natAbs)],.int .i64 0] = .tuple #[.agg #[.bool (fcut q).a.n,.string (fcut q).a.s,.bool (fcut q).b.n,.string (fcut q).b.s],.int .i64 (ferr q)]:=by
 unfold fcut ferr; rw [if_pos h,if_pos h]
theorem cx_over (x y:Cx):(x.mul y.conj).scale y.norm⁻¹ = x.div y:=rfl
def gcut (x:Cx):RG:=if gfits (rg x) = true then rg x else ⟨⟨⟨false,⟨#[]⟩⟩,⟨false,⟨#[]⟩⟩⟩,⟨⟨false,⟨#[]⟩⟩,⟨false,⟨#[]⟩⟩⟩⟩
def gerr (x:Cx):Int:=if gfits (rg x) = true then 0 else 4
theorem ferr_1 {q:Rat} (h:((ferr q) != 0) = true):fits (rf q) = false:=by
 unfold ferr at h
 cases e:fits (rf q) with
 | false=>rfl
 | true=>rw [if_pos e] at h; exact absurd h (by decide)
theorem ferr_0 {q:Rat} (h:((ferr q) != 0) = false):fits (rf q) = true:=by
 unfold ferr at h
 cases e:fits (rf q) with
 | true=>rfl
 | false=>rw [if_neg (by rw [e]; decide)] at h; exact absurd h (by decide)
theorem gfits_no {x:Cx} (h:((ferr x.re) != 0) = true ∨ ((ferr x.im) != 0) = true):gfits (rg x) = false:=by
 show (fits (rf x.re) && fits (rf x.im)) = false
 rcases h with h | h
 ·rw [ferr_1 h,Bool.false_and]
 ·rw [ferr_1 h,Bool.and_false]
theorem gcut_no {x:Cx} (h:((ferr x.re) != 0) = true ∨ ((ferr x.im) != 0) = true):Value.tuple #[.agg #[.bool false,.string ⟨#[]⟩,.bool false,.string ⟨#[]⟩,.bool false,.string ⟨#[]⟩,.bool false,.string ⟨#[]⟩],.int .i64 4] =
  .tuple #[.agg #[.bool (gcut x).re.a.n,.string (gcut x).re.a.s,.bool (gcut x).re.b.n,.string (gcut x).re.b.s,.bool (gcut x).im.a.n,.string (gcut x).im.a.s,.bool (gcut x).im.b.n,.string (gcut x).im.b.s],.int .i64 (gerr x)]:=by
 unfold gcut gerr
 rw [if_neg (by rw [gfits_no h]; decide),if_neg (by rw [gfits_no h]; decide)]
theorem gcut_yes {x:Cx} (h:((ferr x.re) != 0) = false) (h' : ((ferr x.im) != 0) = false):Value.tuple #[.agg #[.bool (fcut x.re).a.n,.string (fcut x.re).a.s,.bool (fcut x.re).b.n,.string (fcut x.re).b.s,.bool (fcut x.im).a.n,.string (fcut x.im).a.s,.bool (fcut x.im).b.n,.string (fcut x.im).b.s],.int .i64 0] =
  .tuple #[.agg #[.bool (gcut x).re.a.n,.string (gcut x).re.a.s,.bool (gcut x).re.b.n,.string (gcut x).re.b.s,.bool (gcut x).im.a.n,.string (gcut x).im.a.s,.bool (gcut x).im.b.n,.string (gcut x).im.b.s],.int .i64 (gerr x)]:=by
 have h1:gfits (rg x) = true:=by
  show (fits (rf x.re) && fits (rf x.im)) = true
  rw [ferr_0 h,ferr_0 h']; rfl
 unfold gcut gerr fcut
 rw [if_pos h1,if_pos h1,if_pos (ferr_0 h),if_pos (ferr_0 h')]
theorem ex_neq_gauss {ρ:Operand → Value} {o:Oper} {w:World} {k:TypeId} (a b:Operand) (ho:o.op = .binOp .neq 27 a b k) {r q:RG} (ha:ρ a = .agg #[.bool r.re.a.n,.string r.re.a.s,.bool r.re.b.n,.string r.re.b.s,.bool r.im.a.n,.string r.im.a.s,.bool r.im.b.n,.string r.im.b.s]) (hb:ρ b = .agg #[.bool q.re.a.n,.string q.re.a.s,.bool q.re.b.n,.string q.re.b.s,.bool q.im.a.n,.string q.im.a.s,.bool q.im.b.n,.string q.im.b.s]) {c:Bool} (hc:decide (r = q) = c) :
  (execOp ρ o).run Tryz.prog w = .ok (.value (.bool (!c))) w:=by
 subst hc
 obtain ⟨⟨⟨n1,s1⟩,⟨n2,s2⟩⟩,⟨⟨n3,s3⟩,⟨n4,s4⟩⟩⟩:=r
 obtain ⟨⟨⟨m1,t1⟩,⟨m2,t2⟩⟩,⟨⟨m3,t3⟩,⟨m4,t4⟩⟩⟩:=q
 unfold execOp
 simp only [ho,ha,hb]
 by_cases h0:n1 = m1
 case neg=>simp [h0,go_sem,toList_inj]
 subst h0
 by_cases h1:s1 = t1
 case neg=>simp [h1,go_sem,toList_inj]
 subst h1
 by_cases h2:n2 = m2
 case neg=>simp [h2,go_sem,toList_inj]
 subst h2
 by_cases h3:s2 = t2
 case neg=>simp [h3,go_sem,toList_inj]
 subst h3
 by_cases h4:n3 = m3
 case neg=>simp [h4,go_sem,toList_inj]
 subst h4
 by_cases h5:s3 = t3
 case neg=>simp [h5,go_sem,toList_inj]
 subst h5
 by_cases h6:n4 = m4
 case neg=>simp [h6,go_sem,toList_inj]
 subst h6
 by_cases h7:s4 = t4
 case neg=>simp [h7,go_sem,toList_inj]
 subst h7
 simp [go_sem,toList_inj]
theorem Rgn.Below.growS {n:Nat} {w w' : World} (h:RowKit.Below n w w') (hn:w.heap.size ≤ n) (S:Nat → Prop):GrowS S w w' :=
 ⟨h.os,h.tape,h.output,h.size,fun k hk=>.inl (h.block k (by omega))⟩
theorem wpT_callR {P:Program} {ops:Array Oper} {Q:Exit → Act → World → Prop} {o:Oper} {rest:List Oper} {a:Act} {w:World} {f:FuncId} {args:Array Value} {φ:VP} {S:Nat → Prop} (hg:o.guard = none) (hr:(execOp a.eval o).run P w = .ok (.enter f args) w) (hc:Calls P f args w (Ret φ S w))
  (h:∀ v w', φ.p (fun k=>S k ∨ w.heap.size ≤ k) v w' → RowKit.Below w.heap.size w w' → wpList P ops Q rest (a.put o.dst v) w'):wpList P ops Q (o :: rest) a w:=by
 refine wpList_plain hg fun K hK=>?_
 simp only [Oper.wp,hr,Oper.upon]
 refine hc.mono fun e w' ⟨v,he,h1,h2⟩=>?_
 subst he
 exact hK _ _ (h v w' h1 h2)
theorem rounds_k {P:Program} {c:Code} {Q:Exit → Act → World → Prop} {n:Nat} {a:Act} {w:World} (h:∀ K:Act → World → Prop,(∀ a w,Code.rounds P c Q n a w → K a w) → c.wp P (Exit.then K Q) a w):Code.rounds P c Q (n + 1) a w:=h _ (fun _ _ q=>q)
section
variable {P:Program} {fn:Func} {p q r ty ty' ty'' : Nat} {tmps:Array Value} {w:World} {g g' g'' : Nat}
end
theorem bS_size_le {n k:Nat} (h:bl n ≤ 8 * k):(bS n).size ≤ k:=by
 have e:(bS n).size = (leB n).length:=by
  show (bytesOf n).toArray.size = _
  simp [bytesOf]
 rw [e,leB_bl]; omega
theorem fits_ht {q:Rat} (h:ht q ≤ 8192):fits (rf q) = true:=by
 unfold fits
 rw [Bool.and_eq_true,decide_eq_true_eq,decide_eq_true_eq]
 have h1:=ht_num q
 have h2:=ht_den q
 refine ⟨bS_size_le (by omega),?_⟩
 show (bS (q.den:Int).natAbs).size ≤ 1024
 exact bS_size_le (by rw [Int.natAbs_natCast]; omega)
theorem gfits_ht {z:Cx} (h:ht z.re ≤ 8192 ∧ ht z.im ≤ 8192):gfits (rg z) = true:=by
 show (fits (rf z.re) && fits (rf z.im)) = true
 rw [fits_ht h.1,fits_ht h.2]; rfl
section
variable {P:Program} {ops:Array Oper} {Q:Exit → Act → World → Prop} {o:Oper} {rest:List Oper} {a:Act} {w:World}
end
section
variable {P:Program} {ops:Array Oper} {B0:Nat} {R0:Nat → Prop} {olds:List (Nat × Nat)} {a0:Act} {w0:World} {F:List (Pl B0 R0 olds) → Prop} {k i:Nat} {rp:List (Nat × Pl B0 R0 olds)} {o:Oper}
theorem Rgn.yielded_un {u:Nat → Got} {k:Nat} {d:Tmp} (hd:dstOf ops k = some d) (h:(fill ops u ops.size a0).tmps.getD d undef = undef):yielded ops (fill ops u ops.size a0).tmps k = none:=by
 unfold dstOf at hd
 simp only [yielded,hd,Option.bind_some]
 rw [Array.getD_eq_getD_getElem?] at h
 cases hx:(fill ops u ops.size a0).tmps[d]? with
 | none=>rfl
 | some x=>rw [hx] at h; simp only [Option.getD_some] at h; subst h; rfl
theorem Rgn.Go2.su (ho:ops[i]? = some o) (q:Nat) {b:Bool} {d:Tmp} (rest:Go2 P ops a0 w0 F k (i + 1) ((i,.op none (.eq i undef)) :: rp))
  (hm:nth rp (i - 1 - q) = some (q,.op none (.eq q (.bool b))):=by rfl) (h:o.guard = some (q,!b):=by rfl) (hd:dstOf ops q = some d:=by rfl) (hB:(apartB ops && inB ops a0 && decide (q < ops.size)) = true:=by kernel_rfl) (hb:pre ops i q = true:=by kernel_rfl):Go2 P ops a0 w0 F (k + 1) i rp:=fun hwf=>by
 refine ⟨.op none (.eq i undef),fun o' ho' u w ρ hE hB' hO hfa _=>.inl ⟨?_,?_⟩,Go2.next hwf rest⟩
 ·rw [hwf.len] at *
  rw [ho] at ho'; cases ho'
  simp only [Bool.and_eq_true,decide_eq_true_eq] at hB
  have h1:=fill_some hB.1.1 u a0 hB.1.2 d q hd hB.2 ops.size hB.2 (Nat.le_refl _)
  have h2:(u q).v = .bool b:=(Here2.mk ⟨hE,hB', hO,hfa⟩ hwf).f (nth_mem hm) hb
  rw [h2] at h1
  simp [Region.wanted,h,yielded_at hd h1]
 ·show (upd u _ _ i).v = undef
  rw [hwf.len,upd_same]
theorem Rgn.Go2.sn (ho:ops[i]? = some o) (q:Nat) {b:Bool} {d:Tmp} (rest:Go2 P ops a0 w0 F k (i + 1) ((i,.op none (.eq i undef)) :: rp))
  (hm:nth rp (i - 1 - q) = some (q,.op none (.eq q undef)):=by rfl) (h:o.guard = some (q,b):=by rfl) (hd:dstOf ops q = some d:=by rfl) (hB:(apartB ops && inB ops a0 && decide (q < ops.size)) = true:=by kernel_rfl) (hb:pre ops i q = true:=by kernel_rfl):Go2 P ops a0 w0 F (k + 1) i rp:=fun hwf=>by
 refine ⟨.op none (.eq i undef),fun o' ho' u w ρ hE hB' hO hfa _=>.inl ⟨?_,?_⟩,Go2.next hwf rest⟩
 ·rw [hwf.len] at *
  rw [ho] at ho'; cases ho'
  simp only [Bool.and_eq_true,decide_eq_true_eq] at hB
  have h1:=fill_some hB.1.1 u a0 hB.1.2 d q hd hB.2 ops.size hB.2 (Nat.le_refl _)
  have h2:(u q).v = undef:=(Here2.mk ⟨hE,hB', hO,hfa⟩ hwf).f (nth_mem hm) hb
  rw [h2] at h1
  simp [Region.wanted,h,yielded_un hd h1]
 ·show (upd u _ _ i).v = undef
  rw [hwf.len,upd_same]
end
abbrev rz:RG:=⟨⟨⟨false,⟨#[]⟩⟩,⟨false,⟨#[]⟩⟩⟩,⟨⟨false,⟨#[]⟩⟩,⟨false,⟨#[]⟩⟩⟩⟩
section
variable {P:Program} {ρ:Operand → Value} {o:Oper} {w:World} {x y:Operand}
end
section
variable {P:Program} {fn:Func} {p q r s ty:Nat} {tmps:Array Value} {w:World} {g g' g'' : Nat} {t t' t'' : TypeId} {cs cs' cs'' : Array Value} {fr1 fr2 fr3:Nat × Nat} {v v' : Value}
end
theorem fits_ht_le {q:Rat} (h:fits (rf q) = true):ht q ≤ 8200:=by
 unfold fits at h
 rw [Bool.and_eq_true,decide_eq_true_eq,decide_eq_true_eq] at h
 have h1:=hi_bytes q.num
 have h2:=hi_bytes (q.den:Int)
 have h3:(rw q.num).s.size ≤ 1024:=h.1
 have h4:(rw (q.den:Int)).s.size ≤ 1024:=h.2
 have h5:hi (q.den:Int) = bl q.den + 1:=by unfold hi; rw [Int.natAbs_natCast]
 have h6:hi q.num = bl q.num.natAbs + 1:=rfl
 have h7:ht q = max (bl q.num.natAbs) (bl q.den) + 1:=rfl
 omega
theorem gfits_ht2 {c:Cx} (h:gfits (rg c) = true):ht c.re + ht c.im ≤ 20000:=by
 have h1:(fits (rf c.re) && fits (rf c.im)) = true:=h
 rw [Bool.and_eq_true] at h1
 have h2:=fits_ht_le h1.1
 have h3:=fits_ht_le h1.2
 omega
theorem icmp0 {x y:Int}:icmp x y = 0 ↔ x = y:=by unfold icmp; split <;> (try split) <;> omega
theorem rat_eq_iff (p q:Rat):p = q ↔ p.num * (q.den:Int) = q.num * (p.den:Int):=by
 constructor
 ·rintro rfl; rfl
 ·intro h
  have h1:=Rat.le_iff p q
  have h2:=Rat.le_iff q p
  have a:p ≤ q:=h1.2 (by omega)
  have b:q ≤ p:=h2.2 (by omega)
  exact Rat.le_antisymm a b
theorem hc_div (x y:Cx):ht (x.div y).re ≤ 3 * (ht x.re + ht x.im + ht y.re + ht y.im) ∧ ht (x.div y).im ≤ 3 * (ht x.re + ht x.im + ht y.re + ht y.im):=by
 have h1:=hc_conj y
 have h2:=hc_mul x y.conj
 have h3:=hc_norm y
 have h4:=ht_inv y.norm
 have h5:=hc_scale (x.mul y.conj) (y.norm)⁻¹
 show ht ((x.mul y.conj).scale (y.norm)⁻¹).re ≤ _ ∧ ht ((x.mul y.conj).scale (y.norm)⁻¹).im ≤ _
 omega
theorem ptr1 (a:Option Addr):(Value.pointer a).oneCell' = true:=rfl
theorem sq_nonneg (x:Rat):0 ≤ x * x:=by
 rcases (by grind:0 ≤ x ∨ x ≤ 0) with h | h
 ·exact Rat.mul_nonneg h h
 ·have h2:0 ≤ -x:=by grind
  have h3:=Rat.mul_nonneg h2 h2
  have h4:x * x = (-x) * (-x):=by grind
  rw [h4]; exact h3
theorem sq_zero {x y:Rat} (h:x * x + y * y = 0):x = 0:=by
 have h1:=sq_nonneg x
 have h2:=sq_nonneg y
 have h3:x * x = 0:=by grind
 rcases Rat.mul_eq_zero.1 h3 with h | h <;> exact h
theorem norm_zero2 {y:Cx} (h:y.norm = 0):y.re = 0 ∧ y.im = 0 :=
 ⟨sq_zero h,sq_zero (y:=y.re) (by rw [Rat.add_comm]; exact h)⟩
theorem zero_norm {y:Cx} (h:y.zero = false):y.norm ≠ 0:=fun e=>by
 obtain ⟨h1,h2⟩:=norm_zero2 e
 unfold Cx.zero at h
 rw [decide_eq_true h1,decide_eq_true h2] at h
 cases h
structure Ci where
 a:Rat
 b:Cx
 c:Rat
 deriving DecidableEq
structure RCi where
 a:RF
 b:RG
 c:RF
 deriving DecidableEq
@[reducible] def rci (x:Ci):RCi:=⟨rf x.a,rg x.b,rf x.c⟩
@[reducible] def ciC (x:Ci):Array Value:=#[.bool (decide (x.a.num < 0)),.string (bS x.a.num.natAbs),.bool (decide ((x.a.den:Int) < 0)),.string (bS (x.a.den:Int).natAbs),.bool (decide (x.b.re.num < 0)),.string (bS x.b.re.num.natAbs),.bool (decide ((x.b.re.den:Int) < 0)),.string (bS (x.b.re.den:Int).natAbs),.bool (decide (x.b.im.num < 0)),.string (bS x.b.im.num.natAbs),.bool (decide ((x.b.im.den:Int) < 0)),.string (bS (x.b.im.den:Int).natAbs),.bool (decide (x.c.num < 0)),.string (bS x.c.num.natAbs),.bool (decide ((x.c.den:Int) < 0)),.string (bS (x.c.den:Int).natAbs)]
abbrev ciV (x:Ci):Value:=.agg (ciC x)
@[reducible] def rciC (x:RCi):Array Value:=#[.bool x.a.a.n,.string x.a.a.s,.bool x.a.b.n,.string x.a.b.s,.bool x.b.re.a.n,.string x.b.re.a.s,.bool x.b.re.b.n,.string x.b.re.b.s,.bool x.b.im.a.n,.string x.b.im.a.s,.bool x.b.im.b.n,.string x.b.im.b.s,.bool x.c.a.n,.string x.c.a.s,.bool x.c.b.n,.string x.c.b.s]
abbrev rciV (x:RCi):Value:=.agg (rciC x)
@[reducible] def zCi:Array Value:=#[.bool false,.string ⟨#[]⟩,.bool false,.string ⟨#[]⟩,.bool false,.string ⟨#[]⟩,.bool false,.string ⟨#[]⟩,.bool false,.string ⟨#[]⟩,.bool false,.string ⟨#[]⟩,.bool false,.string ⟨#[]⟩,.bool false,.string ⟨#[]⟩]
abbrev rzCi:RCi:=⟨⟨⟨false,⟨#[]⟩⟩,⟨false,⟨#[]⟩⟩⟩,rz,⟨⟨false,⟨#[]⟩⟩,⟨false,⟨#[]⟩⟩⟩⟩
theorem rci_inj {p q:Ci} (h:rci p = rci q):p = q:=by
 cases p; cases q
 injection h with h0 h1 h2
 simp only [Ci.mk.injEq]
 exact ⟨rf_inj h0,rg_inj h1,rf_inj h2⟩
theorem rci_dec (x y:Ci):decide (rci x = rci y) = decide (x = y):=by
 by_cases h:x = y
 ·subst h; simp
 ·rw [decide_eq_false h,decide_eq_false (fun e=>h (rci_inj e))]
structure Mb where
 a:Cx
 b:Cx
 c:Cx
 d:Cx
 t:Bool
 deriving DecidableEq
structure RMb where
 a:RG
 b:RG
 c:RG
 d:RG
 t:Bool
 deriving DecidableEq
@[reducible] def rmb (x:Mb):RMb:=⟨rg x.a,rg x.b,rg x.c,rg x.d,x.t⟩
@[reducible] def mbC (x:Mb):Array Value:=#[.bool (decide (x.a.re.num < 0)),.string (bS x.a.re.num.natAbs),.bool (decide ((x.a.re.den:Int) < 0)),.string (bS (x.a.re.den:Int).natAbs),.bool (decide (x.a.im.num < 0)),.string (bS x.a.im.num.natAbs),.bool (decide ((x.a.im.den:Int) < 0)),.string (bS (x.a.im.den:Int).natAbs),.bool (decide (x.b.re.num < 0)),.string (bS x.b.re.num.natAbs),.bool (decide ((x.b.re.den:Int) < 0)),.string (bS (x.b.re.den:Int).natAbs),.bool (decide (x.b.im.num < 0)),.string (bS x.b.im.num.natAbs),.bool (decide ((x.b.im.den:Int) < 0)),.string (bS (x.b.im.den:Int).natAbs),.bool (decide (x.c.re.num < 0)),.string (bS x.c.re.num.natAbs),.bool (decide ((x.c.re.den:Int) < 0)),.string (bS (x.c.re.den:Int).natAbs),.bool (decide (x.c.im.num < 0)),.string (bS x.c.im.num.natAbs),.bool (decide ((x.c.im.den:Int) < 0)),.string (bS (x.c.im.den:Int).natAbs),.bool (decide (x.d.re.num < 0)),.string (bS x.d.re.num.natAbs),.bool (decide ((x.d.re.den:Int) < 0)),.string (bS (x.d.re.den:Int).natAbs),.bool (decide (x.d.im.num < 0)),.string (bS x.d.im.num.natAbs),.bool (decide ((x.d.im.den:Int) < 0)),.string (bS (x.d.im.den:Int).natAbs),.bool x.t]
abbrev mbV (x:Mb):Value:=.agg (mbC x)
@[reducible] def rmbC (x:RMb):Array Value:=#[.bool x.a.re.a.n,.string x.a.re.a.s,.bool x.a.re.b.n,.string x.a.re.b.s,.bool x.a.im.a.n,.string x.a.im.a.s,.bool x.a.im.b.n,.string x.a.im.b.s,.bool x.b.re.a.n,.string x.b.re.a.s,.bool x.b.re.b.n,.string x.b.re.b.s,.bool x.b.im.a.n,.string x.b.im.a.s,.bool x.b.im.b.n,.string x.b.im.b.s,.bool x.c.re.a.n,.string x.c.re.a.s,.bool x.c.re.b.n,.string x.c.re.b.s,.bool x.c.im.a.n,.string x.c.im.a.s,.bool x.c.im.b.n,.string x.c.im.b.s,.bool x.d.re.a.n,.string x.d.re.a.s,.bool x.d.re.b.n,.string x.d.re.b.s,.bool x.d.im.a.n,.string x.d.im.a.s,.bool x.d.im.b.n,.string x.d.im.b.s,.bool x.t]
abbrev rmbV (x:RMb):Value:=.agg (rmbC x)
@[reducible] def zMb:Array Value:=#[.bool false,.string ⟨#[]⟩,.bool false,.string ⟨#[]⟩,.bool false,.string ⟨#[]⟩,.bool false,.string ⟨#[]⟩,.bool false,.string ⟨#[]⟩,.bool false,.string ⟨#[]⟩,.bool false,.string ⟨#[]⟩,.bool false,.string ⟨#[]⟩,.bool false,.string ⟨#[]⟩,.bool false,.string ⟨#[]⟩,.bool false,.string ⟨#[]⟩,.bool false,.string ⟨#[]⟩,.bool false,.string ⟨#[]⟩,.bool false,.string ⟨#[]⟩,.bool false,.string ⟨#[]⟩,.bool false,.string ⟨#[]⟩,.bool false]
abbrev rzMb:RMb:=⟨rz,rz,rz,rz,false⟩
theorem rmb_inj {p q:Mb} (h:rmb p = rmb q):p = q:=by
 cases p; cases q
 injection h with h0 h1 h2 h3 h4
 simp only [Mb.mk.injEq]
 exact ⟨rg_inj h0,rg_inj h1,rg_inj h2,rg_inj h3,h4⟩
theorem rmb_dec (x y:Mb):decide (rmb x = rmb y) = decide (x = y):=by
 by_cases h:x = y
 ·subst h; simp
 ·rw [decide_eq_false h,decide_eq_false (fun e=>h (rmb_inj e))]
structure Pn where
 inf:Bool
 z:Cx
 deriving DecidableEq
structure RPn where
 inf:Bool
 z:RG
 deriving DecidableEq
@[reducible] def rpn (x:Pn):RPn:=⟨x.inf,rg x.z⟩
@[reducible] def pnC (x:Pn):Array Value:=#[.bool x.inf,.bool (decide (x.z.re.num < 0)),.string (bS x.z.re.num.natAbs),.bool (decide ((x.z.re.den:Int) < 0)),.string (bS (x.z.re.den:Int).natAbs),.bool (decide (x.z.im.num < 0)),.string (bS x.z.im.num.natAbs),.bool (decide ((x.z.im.den:Int) < 0)),.string (bS (x.z.im.den:Int).natAbs)]
abbrev pnV (x:Pn):Value:=.agg (pnC x)
@[reducible] def rpnC (x:RPn):Array Value:=#[.bool x.inf,.bool x.z.re.a.n,.string x.z.re.a.s,.bool x.z.re.b.n,.string x.z.re.b.s,.bool x.z.im.a.n,.string x.z.im.a.s,.bool x.z.im.b.n,.string x.z.im.b.s]
abbrev rpnV (x:RPn):Value:=.agg (rpnC x)
@[reducible] def zPn:Array Value:=#[.bool false,.bool false,.string ⟨#[]⟩,.bool false,.string ⟨#[]⟩,.bool false,.string ⟨#[]⟩,.bool false,.string ⟨#[]⟩]
abbrev rzPn:RPn:=⟨false,rz⟩
section
variable {w:World}
theorem eqin_whole (d:Nat) (r q:RW):(Op.equalIn (d + 2) 23 (rwV r) (rwV q)).run Tryz.prog w = .ok (decide (r = q)) w:=by
 obtain ⟨n,s⟩:=r
 obtain ⟨m,t⟩:=q
 have e:decide ((⟨n,s⟩:RW) = ⟨m,t⟩) = ((n == m) && decide (s = t)):=by
  by_cases h1:n = m <;> by_cases h2:s = t <;> simp [h1,h2]
 rw [e]
 cases n <;> cases m <;> by_cases h:s = t <;> simp [h,go_sem,toList_inj]
theorem fields_of {P:Program} {t:TypeId} {fs:Array Field} (h:P.underlying t = some (.struct fs)):P.fieldsOf t = fs:=by unfold Program.fieldsOf; rw [h]
theorem eqf_step {P:Program} {d:Nat} {xs ys:Array Value} {f:Field} {fs:List Field} {a b:Value} {r s:Bool} (hn:f.name ≠ "_") (ha:(part f.type xs f.offset).run P w = .ok a w) (hb:(part f.type ys f.offset).run P w = .ok b w) (he:(Op.equalIn d f.type a b).run P w = .ok r w) (hr:(Op.eqFields d xs ys fs).run P w = .ok s w):(Op.eqFields d xs ys (f :: fs)).run P w = .ok (r && s) w:=by
 unfold Op.eqFields
 rw [if_pos hn]
 simp only [Sem.run_bind,ha,hb,he,Result.andThen_ok]
 cases r
 ·simp [Sem.run_ite]
 ·simp [Sem.run_ite,hr]
theorem eqf_nil {P:Program} {d:Nat} {xs ys:Array Value}:(Op.eqFields d xs ys []).run P w = .ok true w:=by simp [Op.eqFields]
theorem eqin_bool (d:Nat) (a b:Bool):(Op.equalIn (d + 1) 4 (.bool a) (.bool b)).run Tryz.prog w = .ok (decide (a = b)) w:=by
 rw [run_equalIn_bool w d _ a b Tryz.underlying4]
 cases a <;> cases b <;> rfl
theorem eqin_frac (d:Nat) (r q:RF):(Op.equalIn (d + 3) 25 (rfV r) (rfV q)).run Tryz.prog w = .ok (decide (r = q)) w:=by
 have hf:=fields_of Tryz.underlying25
 have e:decide (r = q) = ((decide (r.a = q.a) && (decide (r.b = q.b) && true))):=by
  cases r; cases q; simp only [RF.mk.injEq,Bool.and_true,decide_eq_decide,Bool.decide_and]
 rw [e]
 rw [run_equalIn_struct _ _ _ _ _ (by rw [hf]; exact Tryz.underlying25) (by kernel_rfl),hf]
 refine eqf_step (a:=rwV r.a) (b:=rwV q.a) (by decide) (by go_simp) (by go_simp) (eqin_whole _ _ _) (eqf_step (a:=rwV r.b) (b:=rwV q.b) (by decide) (by go_simp) (by go_simp) (eqin_whole _ _ _) (eqf_nil))
theorem eqin_gauss (d:Nat) (r q:RG):(Op.equalIn (d + 4) 27 (rgV r) (rgV q)).run Tryz.prog w = .ok (decide (r = q)) w:=by
 have hf:=fields_of Tryz.underlying27
 have e:decide (r = q) = ((decide (r.re = q.re) && (decide (r.im = q.im) && true))):=by
  cases r; cases q; simp only [RG.mk.injEq,Bool.and_true,decide_eq_decide,Bool.decide_and]
 rw [e]
 rw [run_equalIn_struct _ _ _ _ _ (by rw [hf]; exact Tryz.underlying27) (by kernel_rfl),hf]
 refine eqf_step (a:=rfV r.re) (b:=rfV q.re) (by decide) (by go_simp) (by go_simp) (eqin_frac _ _ _) (eqf_step (a:=rfV r.im) (b:=rfV q.im) (by decide) (by go_simp) (by go_simp) (eqin_frac _ _ _) (eqf_nil))
theorem eqin_ci (d:Nat) (r q:RCi):(Op.equalIn (d + 5) 47 (rciV r) (rciV q)).run Tryz.prog w = .ok (decide (r = q)) w:=by
 have hf:=fields_of Tryz.underlying47
 have e:decide (r = q) = ((decide (r.a = q.a) && (decide (r.b = q.b) && (decide (r.c = q.c) && true)))):=by
  cases r; cases q; simp only [RCi.mk.injEq,Bool.and_true,decide_eq_decide,Bool.decide_and]
 rw [e]
 rw [run_equalIn_struct _ _ _ _ _ (by rw [hf]; exact Tryz.underlying47) (by kernel_rfl),hf]
 refine eqf_step (a:=rfV r.a) (b:=rfV q.a) (by decide) (by go_simp) (by go_simp) (eqin_frac _ _ _) (eqf_step (a:=rgV r.b) (b:=rgV q.b) (by decide) (by go_simp) (by go_simp) (eqin_gauss _ _ _) (eqf_step (a:=rfV r.c) (b:=rfV q.c) (by decide) (by go_simp) (by go_simp) (eqin_frac _ _ _) (eqf_nil)))
theorem eqin_mb (d:Nat) (r q:RMb):(Op.equalIn (d + 5) 44 (rmbV r) (rmbV q)).run Tryz.prog w = .ok (decide (r = q)) w:=by
 have hf:=fields_of Tryz.underlying44
 have e:decide (r = q) = ((decide (r.a = q.a) && (decide (r.b = q.b) && (decide (r.c = q.c) && (decide (r.d = q.d) && (decide (r.t = q.t) && true)))))):=by
  cases r; cases q; simp only [RMb.mk.injEq,Bool.and_true,decide_eq_decide,Bool.decide_and]
 rw [e]
 rw [run_equalIn_struct _ _ _ _ _ (by rw [hf]; exact Tryz.underlying44) (by kernel_rfl),hf]
 refine eqf_step (a:=rgV r.a) (b:=rgV q.a) (by decide) (by go_simp) (by go_simp) (eqin_gauss _ _ _) (eqf_step (a:=rgV r.b) (b:=rgV q.b) (by decide) (by go_simp) (by go_simp) (eqin_gauss _ _ _) (eqf_step (a:=rgV r.c) (b:=rgV q.c) (by decide) (by go_simp) (by go_simp) (eqin_gauss _ _ _) (eqf_step (a:=rgV r.d) (b:=rgV q.d) (by decide) (by go_simp) (by go_simp) (eqin_gauss _ _ _) (eqf_step (a:=.bool r.t) (b:=.bool q.t) (by decide) (by go_simp) (by go_simp) (eqin_bool _ _ _) (eqf_nil)))))
theorem eqin_pn (d:Nat) (r q:RPn):(Op.equalIn (d + 5) 56 (rpnV r) (rpnV q)).run Tryz.prog w = .ok (decide (r = q)) w:=by
 have hf:=fields_of Tryz.underlying56
 have e:decide (r = q) = ((decide (r.inf = q.inf) && (decide (r.z = q.z) && true))):=by
  cases r; cases q; simp only [RPn.mk.injEq,Bool.and_true,decide_eq_decide,Bool.decide_and]
 rw [e]
 rw [run_equalIn_struct _ _ _ _ _ (by rw [hf]; exact Tryz.underlying56) (by kernel_rfl),hf]
 refine eqf_step (a:=.bool r.inf) (b:=.bool q.inf) (by decide) (by go_simp) (by go_simp) (eqin_bool _ _ _) (eqf_step (a:=rgV r.z) (b:=rgV q.z) (by decide) (by go_simp) (by go_simp) (eqin_gauss _ _ _) (eqf_nil))
end
theorem ex_eql_ci {ρ:Operand → Value} {o:Oper} {w:World} {k:TypeId} (a b:Operand) (ho:o.op = .binOp .eql 47 a b k) {r q:RCi} (ha:ρ a = rciV r) (hb:ρ b = rciV q) {c:Bool} (hc:decide (r = q) = c) :
  (execOp ρ o).run Tryz.prog w = .ok (.value (.bool (c))) w:=by
 subst hc
 unfold execOp
 simp only [ho,ha,hb,rciV,Sem.run_bind]
 rw [run_eqGuard_agg (P:=Tryz.prog) w .eql 47 a b (rciC r) (rciC q) (by kernel_rfl)]
 simp only [Result.andThen_ok,Sem.run_bind,run_eql_struct,eqin_ci 9995 r q]
 rfl
theorem ex_eql_mb {ρ:Operand → Value} {o:Oper} {w:World} {k:TypeId} (a b:Operand) (ho:o.op = .binOp .eql 44 a b k) {r q:RMb} (ha:ρ a = rmbV r) (hb:ρ b = rmbV q) {c:Bool} (hc:decide (r = q) = c) :
  (execOp ρ o).run Tryz.prog w = .ok (.value (.bool (c))) w:=by
 subst hc
 unfold execOp
 simp only [ho,ha,hb,rmbV,Sem.run_bind]
 rw [run_eqGuard_agg (P:=Tryz.prog) w .eql 44 a b (rmbC r) (rmbC q) (by kernel_rfl)]
 simp only [Result.andThen_ok,Sem.run_bind,run_eql_struct,eqin_mb 9995 r q]
 rfl
theorem ex_neq_mb {ρ:Operand → Value} {o:Oper} {w:World} {k:TypeId} (a b:Operand) (ho:o.op = .binOp .neq 44 a b k) {r q:RMb} (ha:ρ a = rmbV r) (hb:ρ b = rmbV q) {c:Bool} (hc:decide (r = q) = c) :
  (execOp ρ o).run Tryz.prog w = .ok (.value (.bool (!c))) w:=by
 subst hc
 unfold execOp
 simp only [ho,ha,hb,rmbV,Sem.run_bind]
 rw [run_eqGuard_agg (P:=Tryz.prog) w .neq 44 a b (rmbC r) (rmbC q) (by kernel_rfl)]
 simp only [Result.andThen_ok,Sem.run_bind,run_neq_struct,eqin_mb 9995 r q]
 rfl
theorem ex_eql_pn {ρ:Operand → Value} {o:Oper} {w:World} {k:TypeId} (a b:Operand) (ho:o.op = .binOp .eql 56 a b k) {r q:RPn} (ha:ρ a = rpnV r) (hb:ρ b = rpnV q) {c:Bool} (hc:decide (r = q) = c) :
  (execOp ρ o).run Tryz.prog w = .ok (.value (.bool (c))) w:=by
 subst hc
 unfold execOp
 simp only [ho,ha,hb,rpnV,Sem.run_bind]
 rw [run_eqGuard_agg (P:=Tryz.prog) w .eql 56 a b (rpnC r) (rpnC q) (by kernel_rfl)]
 simp only [Result.andThen_ok,Sem.run_bind,run_eql_struct,eqin_pn 9995 r q]
 rfl
def RingP (c:Ci):VP :=
  ⟨fun S v w=>∃ v0 v1 v2 v3,v = .agg #[v0,v1,v2,v3] ∧ (RatP c.a).p S v0 w ∧ (RatN c.b.re).p S v1 w ∧ (RatN c.b.im).p S v2 w ∧ (RatP c.c).p S v3 w,
   fun hS ⟨v0,v1,v2,v3,h,h0,h1,h2,h3⟩=>⟨v0,v1,v2,v3,h,(RatP c.a).mono hS h0,(RatN c.b.re).mono hS h1,(RatN c.b.im).mono hS h2,(RatP c.c).mono hS h3⟩,
   fun hg ⟨v0,v1,v2,v3,h,h0,h1,h2,h3⟩=>⟨v0,v1,v2,v3,h,(RatP c.a).grow hg h0,(RatN c.b.re).grow hg h1,(RatN c.b.im).grow hg h2,(RatP c.c).grow hg h3⟩⟩
theorem RingP.mk {c:Ci} {S:Nat → Prop} {w:World} {v0 v1 v2 v3:Value} (h0:(RatP c.a).p S v0 w) (h1:(RatN c.b.re).p S v1 w) (h2:(RatN c.b.im).p S v2 w) (h3:(RatP c.c).p S v3 w):(RingP c).p S (.agg #[v0,v1,v2,v3]) w:=⟨v0,v1,v2,v3,rfl,h0,h1,h2,h3⟩
theorem ring_eq {a b:Ci} (h:a = b) {S:Nat → Prop} {v:Value} {w:World} (F:(RingP a).p S v w):(RingP b).p S v w:=h ▸ F
theorem RingP.elim {c:Ci} {S:Nat → Prop} {v:Value} {w:World} (h:(RingP c).p S v w):∃ (b0:Nat) (v1:Value) (v2:Value) (b3:Nat),v = .agg #[pt b0,v1,v2,pt b3] ∧ S b0 ∧ S b3 ∧ (RatP c.a).p (· = b0) (pt b0) w ∧ (RatN c.b.re).p S v1 w ∧ (RatN c.b.im).p S v2 w ∧ (RatP c.c).p (· = b3) (pt b3) w:=by
 obtain ⟨v0,v1,v2,v3,h,h0,h1,h2,h3⟩:=h
 obtain ⟨b0,rfl,k0,m0⟩:=RatP.elim h0
 obtain ⟨b3,rfl,k3,m3⟩:=RatP.elim h3
 exact ⟨b0,v1,v2,b3,h,k0,k3,m0,h1,h2,m3⟩
def MatP (c:Mb):VP :=
  ⟨fun S v w=>∃ v0 v1 v2 v3 v4 v5 v6 v7,v = .agg #[v0,v1,v2,v3,v4,v5,v6,v7,.bool c.t] ∧ (RatN c.a.re).p S v0 w ∧ (RatN c.a.im).p S v1 w ∧ (RatN c.b.re).p S v2 w ∧ (RatN c.b.im).p S v3 w ∧ (RatN c.c.re).p S v4 w ∧ (RatN c.c.im).p S v5 w ∧ (RatN c.d.re).p S v6 w ∧ (RatN c.d.im).p S v7 w,
   fun hS ⟨v0,v1,v2,v3,v4,v5,v6,v7,h,h0,h1,h2,h3,h4,h5,h6,h7⟩=>⟨v0,v1,v2,v3,v4,v5,v6,v7,h,(RatN c.a.re).mono hS h0,(RatN c.a.im).mono hS h1,(RatN c.b.re).mono hS h2,(RatN c.b.im).mono hS h3,(RatN c.c.re).mono hS h4,(RatN c.c.im).mono hS h5,(RatN c.d.re).mono hS h6,(RatN c.d.im).mono hS h7⟩,
   fun hg ⟨v0,v1,v2,v3,v4,v5,v6,v7,h,h0,h1,h2,h3,h4,h5,h6,h7⟩=>⟨v0,v1,v2,v3,v4,v5,v6,v7,h,(RatN c.a.re).grow hg h0,(RatN c.a.im).grow hg h1,(RatN c.b.re).grow hg h2,(RatN c.b.im).grow hg h3,(RatN c.c.re).grow hg h4,(RatN c.c.im).grow hg h5,(RatN c.d.re).grow hg h6,(RatN c.d.im).grow hg h7⟩⟩
theorem MatP.mk {c:Mb} {S:Nat → Prop} {w:World} {v0 v1 v2 v3 v4 v5 v6 v7:Value} (h0:(RatN c.a.re).p S v0 w) (h1:(RatN c.a.im).p S v1 w) (h2:(RatN c.b.re).p S v2 w) (h3:(RatN c.b.im).p S v3 w) (h4:(RatN c.c.re).p S v4 w) (h5:(RatN c.c.im).p S v5 w) (h6:(RatN c.d.re).p S v6 w) (h7:(RatN c.d.im).p S v7 w):(MatP c).p S (.agg #[v0,v1,v2,v3,v4,v5,v6,v7,.bool c.t]) w:=⟨v0,v1,v2,v3,v4,v5,v6,v7,rfl,h0,h1,h2,h3,h4,h5,h6,h7⟩
theorem mat_eq {a b:Mb} (h:a = b) {S:Nat → Prop} {v:Value} {w:World} (F:(MatP a).p S v w):(MatP b).p S v w:=h ▸ F
def PlaceP (c:Pn):VP :=
  ⟨fun S v w=>∃ v1 v2,v = .agg #[.bool c.inf,v1,v2] ∧ (RatN c.z.re).p S v1 w ∧ (RatN c.z.im).p S v2 w,
   fun hS ⟨v1,v2,h,h1,h2⟩=>⟨v1,v2,h,(RatN c.z.re).mono hS h1,(RatN c.z.im).mono hS h2⟩,
   fun hg ⟨v1,v2,h,h1,h2⟩=>⟨v1,v2,h,(RatN c.z.re).grow hg h1,(RatN c.z.im).grow hg h2⟩⟩
theorem PlaceP.mk {c:Pn} {S:Nat → Prop} {w:World} {v1 v2:Value} (h1:(RatN c.z.re).p S v1 w) (h2:(RatN c.z.im).p S v2 w):(PlaceP c).p S (.agg #[.bool c.inf,v1,v2]) w:=⟨v1,v2,rfl,h1,h2⟩
theorem place_eq {a b:Pn} (h:a = b) {S:Nat → Prop} {v:Value} {w:World} (F:(PlaceP a).p S v w):(PlaceP b).p S v w:=h ▸ F
theorem sgn_iff {q:Rat}:(q.num.sign == 0) = true ↔ q = 0:=by
 rw [beq_iff_eq,Int.sign_eq_zero_iff_zero,Rat.num_eq_zero]
theorem sgn_no {q:Rat} (h:(q.num.sign == 0) = false):q ≠ 0:=fun e=>by
 rw [sgn_iff.2 e] at h; cases h
theorem zero_iff {z:Cx}:z.zero = true ↔ z = ⟨0,0⟩:=by
 unfold Cx.zero
 rw [Bool.and_eq_true,decide_eq_true_eq,decide_eq_true_eq]
 exact ⟨fun h=>Cx.ext' h.1 h.2,fun h=>by rw [h]; exact ⟨rfl,rfl⟩⟩
theorem icmp_b (x y:Rat):(icmp (x.num * (y.den:Int)) (y.num * (x.den:Int)) == 0) = decide (x = y):=by
 rw [Bool.eq_iff_iff,beq_iff_eq,icmp0,decide_eq_true_eq,rat_eq_iff]
theorem same_b (x y:Cx):(x.sub y).zero = decide (x = y):=by
 rw [Bool.eq_iff_iff,zero_iff,decide_eq_true_eq]
 constructor
 ·intro h
  have h1:x.re - y.re = 0:=congrArg Cx.re h
  have h2:x.im - y.im = 0:=congrArg Cx.im h
  exact Cx.ext' (by grind) (by grind)
 ·intro h
  subst h
  exact Cx.ext' (by show x.re - x.re = 0; grind) (by show x.im - x.im = 0; grind)
abbrev Cx.hh (z:Cx):Nat:=ht z.re + ht z.im
abbrev Ci.hh (c:Ci):Nat:=ht c.a + c.b.hh + ht c.c
abbrev Mb.hh (m:Mb):Nat:=m.a.hh + m.b.hh + m.c.hh + m.d.hh
abbrev Pn.hh (p:Pn):Nat:=p.z.hh
@[reducible] def Ci.pow (c:Ci):Rat:=c.b.norm - c.a * c.c
def Ci.pos (c:Ci):Bool:=!decide (c.pow.num.sign ≤ 0)
def Ci.piv (c:Ci):Rat:=if (c.a.num.sign == 0) = true then (if (c.b.re.num.sign == 0) = true then c.b.im else c.b.re) else c.a
def Ci.nrm (c:Ci):Ci:=⟨c.a * c.piv⁻¹,c.b.scale c.piv⁻¹,c.c * c.piv⁻¹⟩
theorem piv_ht (c:Ci):ht c.piv ≤ c.hh:=by
 unfold Ci.piv Ci.hh Cx.hh
 split
 ·split <;> omega
 ·omega
theorem nrm_ht (c:Ci):ht c.nrm.a ≤ ht c.a + ht c.piv ∧ ht c.nrm.b.re ≤ ht c.b.re + ht c.piv ∧ ht c.nrm.b.im ≤ ht c.b.im + ht c.piv ∧ ht c.nrm.c ≤ ht c.c + ht c.piv:=by
 have h0:=ht_inv c.piv
 have h1:=ht_mul c.a c.piv⁻¹
 have h2:=hc_scale c.b c.piv⁻¹
 have h3:=ht_mul c.c c.piv⁻¹
 show ht (c.a * c.piv⁻¹) ≤ _ ∧ ht (c.b.scale c.piv⁻¹).re ≤ _ ∧ ht (c.b.scale c.piv⁻¹).im ≤ _ ∧ ht (c.c * c.piv⁻¹) ≤ _
 omega
def Ci.flat (c:Ci):Bool:=decide (c.piv = 0)
theorem piv_ne {c:Ci} (h:c.flat = false):c.piv ≠ 0:=of_decide_eq_false h
theorem piv_0 {c:Ci} (h:(c.a.num.sign == 0) = false):c.piv = c.a:=by unfold Ci.piv; rw [if_neg (by rw [h]; decide)]
theorem piv_1 {c:Ci} (h:(c.a.num.sign == 0) = true) (h' : (c.b.re.num.sign == 0) = false):c.piv = c.b.re:=by
 unfold Ci.piv; rw [if_pos h,if_neg (by rw [h']; decide)]
theorem piv_2 {c:Ci} (h:(c.a.num.sign == 0) = true) (h' : (c.b.re.num.sign == 0) = true):c.piv = c.b.im:=by
 unfold Ci.piv; rw [if_pos h,if_pos h']
theorem pos_flat {c:Ci} (h:c.pos = true):c.flat = false:=by
 refine decide_eq_false fun e=>?_
 unfold Ci.piv at e
 unfold Ci.pos at h
 rw [Bool.not_eq_true', decide_eq_false_iff_not] at h
 apply h
 have h0:c.a = 0 ∧ c.b.re = 0 ∧ c.b.im = 0:=by
  split at e
  ·rename_i h1
   split at e
   ·rename_i h2
    exact ⟨sgn_iff.1 h1,sgn_iff.1 h2,e⟩
   ·rename_i h2
    exact absurd (sgn_iff.2 e) h2
  ·rename_i h1
   exact absurd (sgn_iff.2 e) h1
 have:c.pow = 0:=by
  show c.b.re * c.b.re + c.b.im * c.b.im - c.a * c.c = 0
  rw [h0.1,h0.2.1,h0.2.2]; grind
 rw [this]; decide
@[reducible] def Mb.det (m:Mb):Cx:=(m.a.mul m.d).sub (m.b.mul m.c)
def Mb.piv (m:Mb):Cx:=if m.c.zero = true then m.d else m.c
def Mb.nrm (m:Mb):Mb:=⟨m.a.div m.piv,m.b.div m.piv,m.c.div m.piv,m.d.div m.piv,m.t⟩
def cjC (t:Bool) (z:Cx):Cx:=if t = true then z.conj else z
@[reducible] def Mb.dot (x y:Mb):Mb:=⟨(x.a.mul y.a).add (x.b.mul y.c),(x.a.mul y.b).add (x.b.mul y.d),(x.c.mul y.a).add (x.d.mul y.c),(x.c.mul y.b).add (x.d.mul y.d),x.t != y.t⟩
def Mb.put (m:Mb) (p:Pn):Cx × Cx:=if p.inf = true then (m.a,m.c) else ((m.a.mul (cjC m.t p.z)).add m.b,(m.c.mul (cjC m.t p.z)).add m.d)
def Mb.send (m:Mb) (p:Pn):Pn:=if (m.put p).2.zero = true then ⟨true,⟨0,0⟩⟩ else ⟨false,(m.put p).1.div (m.put p).2⟩
def Ci.val (c:Ci) (z:Cx):Rat:=c.a * z.norm + ((c.b.mul z).re + (c.b.mul z).re) + c.c
@[reducible] def Ci.over (c:Ci):Mb:=⟨c.b.conj.neg,⟨-c.c,0⟩,⟨c.a,0⟩,c.b,true⟩
theorem ht_zero:ht (0:Rat) = 2:=by decide
theorem mpiv_ht (m:Mb):ht m.piv.re ≤ m.hh ∧ ht m.piv.im ≤ m.hh ∧ m.piv.hh + m.a.hh + m.b.hh ≤ m.hh:=by
 unfold Mb.piv Mb.hh Cx.hh
 split <;> omega
theorem mnrm_ht (m:Mb):(ht m.nrm.a.re ≤ 3 * (m.a.hh + m.piv.hh) ∧ ht m.nrm.a.im ≤ 3 * (m.a.hh + m.piv.hh)) ∧ (ht m.nrm.b.re ≤ 3 * (m.b.hh + m.piv.hh) ∧ ht m.nrm.b.im ≤ 3 * (m.b.hh + m.piv.hh)) ∧
  (ht m.nrm.c.re ≤ 3 * (m.c.hh + m.piv.hh) ∧ ht m.nrm.c.im ≤ 3 * (m.c.hh + m.piv.hh)) ∧ (ht m.nrm.d.re ≤ 3 * (m.d.hh + m.piv.hh) ∧ ht m.nrm.d.im ≤ 3 * (m.d.hh + m.piv.hh)):=by
 have h1:=hc_div m.a m.piv
 have h2:=hc_div m.b m.piv
 have h3:=hc_div m.c m.piv
 have h4:=hc_div m.d m.piv
 show (ht (m.a.div m.piv).re ≤ 3 * (ht m.a.re + ht m.a.im + (ht m.piv.re + ht m.piv.im)) ∧ ht (m.a.div m.piv).im ≤ 3 * (ht m.a.re + ht m.a.im + (ht m.piv.re + ht m.piv.im))) ∧ (ht (m.b.div m.piv).re ≤ 3 * (ht m.b.re + ht m.b.im + (ht m.piv.re + ht m.piv.im)) ∧ ht (m.b.div m.piv).im ≤ 3 * (ht m.b.re + ht m.b.im + (ht m.piv.re + ht m.piv.im))) ∧
  (ht (m.c.div m.piv).re ≤ 3 * (ht m.c.re + ht m.c.im + (ht m.piv.re + ht m.piv.im)) ∧ ht (m.c.div m.piv).im ≤ 3 * (ht m.c.re + ht m.c.im + (ht m.piv.re + ht m.piv.im))) ∧ (ht (m.d.div m.piv).re ≤ 3 * (ht m.d.re + ht m.d.im + (ht m.piv.re + ht m.piv.im)) ∧ ht (m.d.div m.piv).im ≤ 3 * (ht m.d.re + ht m.d.im + (ht m.piv.re + ht m.piv.im)))
 omega
theorem mpiv_0 {m:Mb} (h:m.c.zero = false):m.piv = m.c:=by unfold Mb.piv; rw [if_neg (by rw [h]; decide)]
theorem mpiv_1 {m:Mb} (h:m.c.zero = true):m.piv = m.d:=by unfold Mb.piv; rw [if_pos h]
theorem det_piv {m:Mb} (h:m.det.zero = false):m.piv.zero = false:=by
 cases hc:m.c.zero with
 | false=>rw [mpiv_0 hc]; exact hc
 | true =>
  rw [mpiv_1 hc]
  cases hd:m.d.zero with
  | false=>rfl
  | true =>
   have h1:=zero_iff.1 hc
   have h2:=zero_iff.1 hd
   have:m.det = ⟨0,0⟩:=by
    show (m.a.mul m.d).sub (m.b.mul m.c) = _
    rw [h1,h2]
    exact Cx.ext' (by show m.a.re * 0 - m.a.im * 0 - (m.b.re * 0 - m.b.im * 0) = 0; grind) (by show m.a.re * 0 + m.a.im * 0 - (m.b.re * 0 + m.b.im * 0) = 0; grind)
   rw [zero_iff.2 this] at h; cases h
def cifits (r:RCi):Bool:=fits r.a && gfits r.b && fits r.c
def mbfits (r:RMb):Bool:=gfits r.a && gfits r.b && gfits r.c && gfits r.d
def cicut (c:Ci):RCi:=if cifits (rci c) = true then rci c else rzCi
def cierr (c:Ci):Int:=if cifits (rci c) = true then 0 else 4
def mbcut (m:Mb):RMb:=if mbfits (rmb m) = true then rmb m else rzMb
def mberr (m:Mb):Int:=if mbfits (rmb m) = true then 0 else 4
def pnR (p:Pn):RPn:=if p.inf = true then ⟨true,rz⟩ else ⟨false,rg p.z⟩
def pnfits (p:Pn):Bool:=p.inf || gfits (rg p.z)
def pncut (p:Pn):RPn:=if pnfits p = true then pnR p else rzPn
def pnerr (p:Pn):Int:=if pnfits p = true then 0 else 4
theorem and_3 {a b c:Bool} (h:(a && b && c) = true):a = true ∧ b = true ∧ c = true:=by cases a <;> cases b <;> cases c <;> simp_all
theorem and_4 {a b c d:Bool} (h:(a && b && c && d) = true):a = true ∧ b = true ∧ c = true ∧ d = true:=by cases a <;> cases b <;> cases c <;> cases d <;> simp_all
theorem cifits_ht {c:Ci} (h:cifits (rci c) = true):ht c.a + ht c.b.re + ht c.b.im + ht c.c ≤ 40000:=by
 obtain ⟨h1,h2,h3⟩:=and_3 h
 have k1:=fits_ht_le h1
 have k2:=gfits_ht2 h2
 have k3:=fits_ht_le h3
 omega
theorem mbfits_ht {m:Mb} (h:mbfits (rmb m) = true):(ht m.a.re + ht m.a.im ≤ 20000) ∧ (ht m.b.re + ht m.b.im ≤ 20000) ∧ (ht m.c.re + ht m.c.im ≤ 20000) ∧ (ht m.d.re + ht m.d.im ≤ 20000):=by
 obtain ⟨h1,h2,h3,h4⟩:=and_4 h
 exact ⟨gfits_ht2 h1,gfits_ht2 h2,gfits_ht2 h3,gfits_ht2 h4⟩
theorem pos_le {c:Ci} (h:c.pos = true):decide (c.pow.num.sign ≤ 0) = false:=by
 unfold Ci.pos at h
 cases e:decide (c.pow.num.sign ≤ 0) with
 | false=>rfl
 | true=>rw [e] at h; cases h
theorem nrm_0 {c:Ci} (h:(c.a.num.sign == 0) = false):Ci.mk (c.a * c.a⁻¹) (c.b.scale c.a⁻¹) (c.c * c.a⁻¹) = c.nrm:=by unfold Ci.nrm; rw [piv_0 h]
theorem nrm_1 {c:Ci} (h:(c.a.num.sign == 0) = true) (h' : (c.b.re.num.sign == 0) = false):Ci.mk (c.a * c.b.re⁻¹) (c.b.scale c.b.re⁻¹) (c.c * c.b.re⁻¹) = c.nrm:=by unfold Ci.nrm; rw [piv_1 h h']
theorem nrm_2 {c:Ci} (h:(c.a.num.sign == 0) = true) (h' : (c.b.re.num.sign == 0) = true):Ci.mk (c.a * c.b.im⁻¹) (c.b.scale c.b.im⁻¹) (c.c * c.b.im⁻¹) = c.nrm:=by unfold Ci.nrm; rw [piv_2 h h']
theorem nz_2 {c:Ci} (p:c.flat = false) (h:(c.a.num.sign == 0) = true) (h' : (c.b.re.num.sign == 0) = true):c.b.im ≠ 0:=by
 have:=piv_ne p; rwa [piv_2 h h'] at this
theorem mnrm_0 {m:Mb} (h:m.c.zero = false):Mb.mk (m.a.div m.c) (m.b.div m.c) (m.c.div m.c) (m.d.div m.c) m.t = m.nrm:=by unfold Mb.nrm; rw [mpiv_0 h]
theorem mnrm_1 {m:Mb} (h:m.c.zero = true):Mb.mk (m.a.div m.d) (m.b.div m.d) (m.c.div m.d) (m.d.div m.d) m.t = m.nrm:=by unfold Mb.nrm; rw [mpiv_1 h]
theorem mnz_0 {m:Mb} (h:m.c.zero = false):m.c.norm ≠ 0:=zero_norm h
theorem mnz_1 {m:Mb} (p:m.piv.zero = false) (h:m.c.zero = true):m.d.norm ≠ 0:=by rw [mpiv_1 h] at p; exact zero_norm p
def Ci.sm (c d:Ci):Bool:=(icmp (c.a.num * (d.a.den:Int)) (d.a.num * (c.a.den:Int)) == 0) && (c.b.sub d.b).zero && (icmp (c.c.num * (d.c.den:Int)) (d.c.num * (c.c.den:Int)) == 0)
theorem sm_dec (c d:Ci):c.sm d = decide (c = d):=by
 unfold Ci.sm
 rw [icmp_b,icmp_b,same_b]
 rw [Bool.eq_iff_iff]
 simp only [Bool.and_eq_true,decide_eq_true_eq]
 constructor
 ·rintro ⟨⟨h1,h2⟩,h3⟩
  cases c; cases d; simp_all
 ·rintro rfl
  exact ⟨⟨rfl,rfl⟩,rfl⟩
section
variable {P:Program} {ρ:Operand → Value} {o:Oper} {w:World} {x y:Operand}
theorem x_pnE {t r:TypeId} {b:Nat} (hx:ρ x = pt b) (hy:ρ y = .pointer none) (ho:o.op = .binOp .eql t x y r:=by rfl) (he:(Op.equal t (pt b) (.pointer none)).run P w = .ok false w:=by kernel_rfl):(execOp ρ o).run P w = .ok (.value (.bool false)) w:=by
 unfold execOp; simp [ho,hx,hy,eqGuard,binOp,he,Result.andThen]
theorem x_pnN {t r:TypeId} {b:Nat} (hx:ρ x = pt b) (hy:ρ y = .pointer none) (ho:o.op = .binOp .neq t x y r:=by rfl) (he:(Op.equal t (pt b) (.pointer none)).run P w = .ok false w:=by kernel_rfl):(execOp ρ o).run P w = .ok (.value (.bool true)) w:=by
 unfold execOp; simp [ho,hx,hy,eqGuard,binOp,he,Result.andThen]
end
theorem eFormed {W:World} (r:RW):Calls Tryz.prog 256 #[.agg #[.bool r.n,.string r.s]] W (RetV (.bool (wformed r)) W):=by
 obtain ⟨n,⟨⟨l⟩⟩⟩:=r
 have hb:Below W.heap.size W (W.alloc (.cells #[.bool n,.string ⟨⟨l⟩⟩] 23)):=Below.alloc (Below.refl _ _) (Nat.le_refl _) _
 cases l with
 | nil =>
  go_enter Tryz.func256,Tryz.ntmps256
  go_wp2_with fail
  refine ret_ok rfl (by exact results_tmp' rfl rfl) (RetV.mk ?_ hb)
  rfl
 | cons c t =>
  go_enter Tryz.func256,Tryz.ntmps256
  go_wp2_with fail
  refine ret_ok rfl (by exact results_tmp' rfl rfl) (RetV.mk ?_ hb)
  refine congrArg (fun b=>Ending.returned (.bool b)) ?_
  show ((c.toNat:Int) != 0) = (c != 0)
  by_cases h:c = 0
  ·subst h; rfl
  ·have h2:c.toNat ≠ 0:=fun e=>h (UInt8.toNat_inj.1 e)
   rw [bne_iff_ne.2 h,bne_iff_ne]; omega
theorem eRatN {S:Nat → Prop} {W:World}:Calls Tryz.prog 236 #[.pointer none] W (Ret (RatP 0) S W):=by
 go_enter Tryz.func236,Tryz.ntmps236
 go_wp2_with fail
 refine ret_ok rfl (by exact results_tmp' rfl rfl) ⟨_,rfl,⟨_,rfl,.inr (Nat.le_refl _),.inr ⟨rfl,heap_alloc_new W _⟩⟩,Below.alloc (Below.refl _ _) (Nat.le_refl _) _⟩
theorem ecut_yes {q:Rat} (h:fits (rf q) = true):Value.tuple #[.agg #[.bool (decide (q.num.sign < 0)),.string (bS q.num.natAbs),.bool false,.string (bS (q.den:Int).natAbs)],.int .i64 0] = .tuple #[rfV (fcut q),.int .i64 (ferr q)]:=by
 rw [sign_lt]
 refine Eq.trans ?_ (fcut_yes h)
 rw [decide_eq_false (show ¬ (q.den:Int) < 0 by omega)]
theorem den_nn (x:Rat):decide ((x.den:Int) < 0) = false:=decide_eq_false (by omega)
theorem den_na (x:Rat):decide ((x.den:Int).natAbs = 0) = false:=decide_eq_false (by have:=x.den_pos; omega)
theorem fits_two {x:Rat} (h:fits (rf x) = true):(bS x.num.natAbs).size ≤ 1024 ∧ (bS (x.den:Int).natAbs).size ≤ 1024:=by
 unfold fits at h
 rw [Bool.and_eq_true,decide_eq_true_eq,decide_eq_true_eq] at h
 exact h
theorem fits_num {x:Rat} (h:fits (rf x) = true):decide (1024 < (((bS x.num.natAbs).size:Nat):Int)) = false:=decide_eq_false (by have:=(fits_two h).1; omega)
theorem fits_den {x:Rat} (h:fits (rf x) = true):decide (1024 < (((bS (x.den:Int).natAbs).size:Nat):Int)) = false:=decide_eq_false (by have:=(fits_two h).2; omega)
theorem icmp_self (x:Int):icmp x x = 0:=by unfold icmp; simp
theorem back_num (x:Rat):((icmp ((Rat.divInt x.num (x.den:Int)).num) x.num) != 0) = false:=by rw [Rat.num_divInt_den,icmp_self]; rfl
theorem back_den (x:Rat):((icmp ((Rat.divInt x.num (x.den:Int)).den:Int) (x.den:Int)) != 0) = false:=by rw [Rat.num_divInt_den,icmp_self]; rfl
theorem bS_len (n:Nat):(bS n).size = (bytesOf n).length:=by show (bytesOf n).toArray.size = _; simp
theorem efits_le {q:Rat} (h:fits (rf q) = true):ht q ≤ 8200:=by
 have h0:=fits_two h
 have h1:=hi_bytes q.num
 have h2:=hi_bytes (q.den:Int)
 have h3:(rw q.num).s.size ≤ 1024:=h0.1
 have h4:(rw (q.den:Int)).s.size ≤ 1024:=h0.2
 have h5:hi (q.den:Int) = bl q.den + 1:=by unfold hi; rw [Int.natAbs_natCast]
 have h6:hi q.num = bl q.num.natAbs + 1:=rfl
 have h7:ht q = max (bl q.num.natAbs) (bl q.den) + 1:=rfl
 omega
theorem num_eq {a b:Cx} (h:a = b) {S:Nat → Prop} {v:Value} {w:World} (F:(NumP a).p S v w):(NumP b).p S v w:=h ▸ F
theorem divInt_one (x:Int):Rat.divInt x 1 = (x:Rat):=by
 have h:=Rat.num_divInt_den (x:Rat)
 rw [Rat.num_intCast,Rat.den_intCast] at h
 exact h
theorem num_int (m n:Int):(⟨Rat.divInt m 1,Rat.divInt n 1⟩:Cx) = Cx.ofInt m n:=Cx.ext' (divInt_one m) (divInt_one n)
end Go.Proofs.YtcpjdjnaipbieaaGreat
namespace Go.Proofs.YtcpjdjnaipbieaaGreat
open Go.RowKit Rgn
set_option maxHeartbeats 4000000
set_option maxRecDepth 100000
variable {S:Nat → Prop} {W:World}
theorem eRatR {v0:Value} (x:Rat) (t0:(RatP x).p S v0 W) :
  Calls Tryz.prog 236 #[v0] W (Ret (RatP x) S W):=by
 obtain ⟨b1,rfl,L1,F1⟩:=RatP.elim t0
 replace L1:Amb S W b1:=.inl L1
 have bel:=b0 W
 go_enter Tryz.func236,Tryz.ntmps236
 refine gs 1 (Amb S W) fun _ K2=>?_
 refine .mc rfl ?_
 refine .dk (fun u=>pt b1::U::u 0::us 4) K2 bel fun u1 w1 D bel=>?_
 have E1_0:=D.q 0
 replace F1:=D.o L1 F1
 clear D
 refine wp_seq_k fun _ K3=>?_
 refine gs 2 (Amb S W) fun _ K4=>?_
 refine .mz rfl 0 (V:=pt b1) rfl ?_
 refine .e rfl (V:=.bool false) (fun H=>x_pnE (H.g 3 0) (H.c _)) ?_
 refine .dk (fun u=>pt b1::U::u1 0::u 0::u 1::U::U::[]) K4 bel fun u2 w2 D bel=>?_
 have E2_1:=D.q 1
 replace F1:=D.o L1 F1
 clear D
 refine wp_cond_false (by exact E2_1) ?_
 refine wp_skip ?_
 refine K3 _ _ ?_
 refine gs 2 (Amb S W) fun _ K5=>?_
 refine .mz rfl 0 (V:=pt b1) rfl ?_
 refine .mv rfl 0 ?_
 refine .dk (fun u=>pt b1::U::u 1::u2 0::u2 1::U::u 0::[]) K5 bel fun u3 w3 D bel=>?_
 have E3_1:=D.q 1
 replace F1:=D.o L1 F1
 clear D
 refine wp_ret ?_
 refine ret_ok rfl (by exact results_tmp' rfl (by exact E3_1)) ⟨_,rfl,?_,bel⟩
 exact (VP.at F1 L1)
end Go.Proofs.YtcpjdjnaipbieaaGreat
namespace Go.Proofs.YtcpjdjnaipbieaaGreat
open Go.RowKit Rgn
theorem eRat {S:Nat → Prop} {W:World} {v0:Value} (x:Rat) (t0:(RatN x).p S v0 W):Calls Tryz.prog 236 #[v0] W (Ret (RatP x) S W):=by
 rcases t0 with ⟨rfl,rfl⟩ | t0
 ·exact eRatN
 ·exact eRatR x t0
end Go.Proofs.YtcpjdjnaipbieaaGreat
namespace Go.Proofs.YtcpjdjnaipbieaaGreat
open Go.RowKit Rgn
set_option maxHeartbeats 4000000
set_option maxRecDepth 100000
variable {S:Nat → Prop} {W:World}
theorem eMul {v0:Value} {v1:Value} (x:Rat) (y:Rat) (t0:(RatN x).p S v0 W) (t1:(RatN y).p S v1 W) (p0:ht x + ht y ≤ 68719476736) :
  Calls Tryz.prog 237 #[v0,v1] W (Ret (RatP (x * y)) S W):=by
 have F_v0:(RatN x).p (Amb S W) v0 W:=(RatN x).mono (fun _ _ h=>.inl h) t0
 have F_v1:(RatN y).p (Amb S W) v1 W:=(RatN y).mono (fun _ _ h=>.inl h) t1
 have bel:=b0 W
 go_enter Tryz.func237,Tryz.ntmps237
 refine gs 1 (Amb S W) fun _ K1=>?_
 refine .mc rfl ?_
 refine .dk (fun u=>v0::v1::U::U::u 0::us 6) K1 bel fun u1 w1 D bel=>?_
 have E1_0:=D.q 0
 replace F_v0:=D.gr (RatN x) F_v0
 replace F_v1:=D.gr (RatN y) F_v1
 clear D
 refine gs 7 (Amb S W) fun _ K2=>?_
 refine .al rfl zQ ?_
 refine .mz rfl 0 (V:=v0) rfl ?_
 refine .cR rfl [] Tryz.func236 (fun H=>⟨_,ar1 (H.g 6 1),eRat _ (H.was _ [] F_v0)⟩) ?_
 refine .mz rfl 1 (V:=v1) rfl ?_
 refine .cR rfl [] Tryz.func236 (fun H=>⟨_,ar1 (H.g 8 3),eRat _ (H.was _ [] F_v1)⟩) ?_
 refine .cO rfl 0 Tryz.func190 (fun H h0 hz=>⟨_,ar3 (H.p 5 0 h0) (H.r 7 2) (H.r 9 4),qMul _ _ (RatBlk.of hz) (SV.any (H.a 2 rfl)) (SV.any (H.a 4 rfl)) (by omega)⟩) ?_
 refine .mo rfl 5 ?_
 refine .dk (fun u=>v0::v1::U::U::u 6::sq u 0 6 []) K2 bel fun u2 w2 D bel=>?_
 obtain ⟨b3,E2_6,A3,F3⟩:=D.ow 6
 have L3:Amb S W b3:=.inr A3
 clear D
 refine wp_ret ?_
 refine ret_ok rfl (by exact results_tmp' rfl (by exact E2_6)) ⟨_,rfl,?_,bel⟩
 exact (VP.at F3 L3)
theorem eParts {v0:Value} (x:Cx) (t0:(NumP x).p S v0 W) :
  Calls Tryz.prog 139 #[v0] W (Ret (VP.tup (RatP x.re) (RatP x.im)) S W):=by
 obtain ⟨x1,x2,rfl,F_x1,F_x2⟩:=t0
 replace F_x1:(RatN x.re).p (Amb S W) x1 W:=(RatN x.re).mono (fun _ _ h=>.inl h) F_x1
 replace F_x2:(RatN x.im).p (Amb S W) x2 W:=(RatN x.im).mono (fun _ _ h=>.inl h) F_x2
 have bel:=b0 W
 go_enter Tryz.func139,Tryz.ntmps139
 refine gs 3 (Amb S W) fun _ K3=>?_
 refine .bx rfl (fun H=>H.v 0 (.agg #[x1,x2])) ?_
 refine .mc rfl ?_
 refine .mc rfl ?_
 refine .dk (fun u=>.agg #[x1,x2]::sq u 0 3 (us 6)) K3 bel fun u1 w1 D bel=>?_
 obtain ⟨b4,E1_0,A4,B4⟩:=D.nw 0
 have E1_1:=D.q 1
 have E1_2:=D.q 2
 replace F_x1:=D.gr (RatN x.re) F_x1
 replace F_x2:=D.gr (RatN x.im) F_x2
 clear D
 refine gd 8 (Amb S W) fun _ K5=>?_
 refine .fz rfl 1 0 E1_0 ?_
 refine .lc rfl 0 B4 ?_ (V:=x1)
 refine .cR rfl [] Tryz.func236 (fun H=>⟨_,ar1 (H.g 5 1),eRat _ (H.was _ [] F_x1)⟩) ?_
 refine .fz rfl 1 1 E1_0 ?_
 refine .lc rfl 3 B4 ?_ (V:=x2)
 refine .cR rfl [] Tryz.func236 (fun H=>⟨_,ar1 (H.g 8 4),eRat _ (H.was _ [] F_x2)⟩) ?_
 refine .mn rfl 2 [2] ?_
 refine .mn rfl 5 [5] ?_
 refine .dk (fun u=>.agg #[x1,x2]::u1 0::u 6::u 7::sq u 0 6 []) K5 bel fun u2 w2 D bel=>?_
 obtain ⟨b6,E2_6,L6,F6⟩:=RatP.elim (D.rr 6)
 obtain ⟨b7,E2_7,L7,F7⟩:=RatP.elim (D.rr 7)
 clear D
 refine wp_ret ?_
 refine ret_ok rfl (by exact results_two rfl (by exact E2_6) (by exact E2_7)) ⟨_,rfl,?_,bel⟩
 exact ⟨_,_,rfl,(VP.at F6 L6),(VP.at F7 L7)⟩
theorem eZero {v0:Value} (x:Cx) (t0:(NumP x).p S v0 W) :
  Calls Tryz.prog 134 #[v0] W (RetV (.bool x.zero) W):=by
 obtain ⟨x1,x2,rfl,F_x1,F_x2⟩:=t0
 replace F_x1:(RatN x.re).p (Amb S W) x1 W:=(RatN x.re).mono (fun _ _ h=>.inl h) F_x1
 replace F_x2:(RatN x.im).p (Amb S W) x2 W:=(RatN x.im).mono (fun _ _ h=>.inl h) F_x2
 have bel:=b0 W
 go_enter Tryz.func134,Tryz.ntmps134
 rcases Bool.eq_false_or_eq_true (x.re.num.sign == 0) with c3 | c3
 ·
  rcases Bool.eq_false_or_eq_true (x.im.num.sign == 0) with c4 | c4
  ·
   refine gs 2 (Amb S W) fun _ K5=>?_
   refine .bx rfl (fun H=>H.v 0 (.agg #[x1,x2])) ?_
   refine .mc rfl ?_
   refine .dk (fun u=>.agg #[x1,x2]::u 0::u 1::us 12) K5 bel fun u1 w1 D bel=>?_
   obtain ⟨b6,E1_0,A6,B6⟩:=D.nw 0
   have E1_1:=D.q 1
   replace F_x1:=D.gr (RatN x.re) F_x1
   replace F_x2:=D.gr (RatN x.im) F_x2
   clear D
   refine gs 13 (Amb S W) fun _ K7=>?_
   refine .fz rfl 1 0 E1_0 ?_
   refine .lc rfl 0 B6 ?_ (V:=x1)
   refine .cR rfl [] Tryz.func236 (fun H=>⟨_,ar1 (H.g 4 1),eRat _ (H.was _ [] F_x1)⟩) ?_
   refine .cK rfl Tryz.func140 (fun H=>⟨_,ar1 (H.r 5 2),qSign _ (SV.any (H.a 2 rfl))⟩) ?_
   refine .e rfl (V:=.bool true) (fun H=>x_cm (H.g 6 3) (H.c _) c3) ?_
   refine .mv rfl 4 ?_
   refine .fz rfl 1 1 E1_0 ?_ (hg:=gq 5 rfl)
   refine .lc rfl 6 B6 ?_ (V:=x2) (hg:=gq 5 rfl)
   refine .cR rfl [] Tryz.func236 (fun H=>⟨_,ar1 (H.g 10 7),eRat _ (H.was _ [] F_x2)⟩) ?_ (hg:=gq 5 rfl)
   refine .cK rfl Tryz.func140 (fun H=>⟨_,ar1 (H.r 11 8),qSign _ (SV.any (H.a 8 rfl))⟩) ?_ (hg:=gq 5 rfl)
   refine .e rfl (V:=.bool true) (fun H=>x_cm (H.g 12 9) (H.c _) c4) ?_ (hg:=gq 5 rfl)
   refine .e rfl (fun H=>x_pkT (H.g 8 5) (H.g 13 10)) ?_
   refine .mv rfl 11 ?_
   refine .dk (fun u=>.agg #[x1,x2]::u1 0::u 12::sq u 0 12 []) K7 bel fun u2 w2 D bel=>?_
   have E2_12:=D.q 12
   clear D
   exact wp_ret (rt rfl E2_12 (zero_b c3 c4) bel)
  ·
   refine gs 2 (Amb S W) fun _ K8=>?_
   refine .bx rfl (fun H=>H.v 0 (.agg #[x1,x2])) ?_
   refine .mc rfl ?_
   refine .dk (fun u=>.agg #[x1,x2]::u 0::u 1::us 12) K8 bel fun u1 w1 D bel=>?_
   obtain ⟨b9,E1_0,A9,B9⟩:=D.nw 0
   have E1_1:=D.q 1
   replace F_x1:=D.gr (RatN x.re) F_x1
   replace F_x2:=D.gr (RatN x.im) F_x2
   clear D
   refine gs 13 (Amb S W) fun _ K10=>?_
   refine .fz rfl 1 0 E1_0 ?_
   refine .lc rfl 0 B9 ?_ (V:=x1)
   refine .cR rfl [] Tryz.func236 (fun H=>⟨_,ar1 (H.g 4 1),eRat _ (H.was _ [] F_x1)⟩) ?_
   refine .cK rfl Tryz.func140 (fun H=>⟨_,ar1 (H.r 5 2),qSign _ (SV.any (H.a 2 rfl))⟩) ?_
   refine .e rfl (V:=.bool true) (fun H=>x_cm (H.g 6 3) (H.c _) c3) ?_
   refine .mv rfl 4 ?_
   refine .fz rfl 1 1 E1_0 ?_ (hg:=gq 5 rfl)
   refine .lc rfl 6 B9 ?_ (V:=x2) (hg:=gq 5 rfl)
   refine .cR rfl [] Tryz.func236 (fun H=>⟨_,ar1 (H.g 10 7),eRat _ (H.was _ [] F_x2)⟩) ?_ (hg:=gq 5 rfl)
   refine .cK rfl Tryz.func140 (fun H=>⟨_,ar1 (H.r 11 8),qSign _ (SV.any (H.a 8 rfl))⟩) ?_ (hg:=gq 5 rfl)
   refine .e rfl (V:=.bool false) (fun H=>x_cm (H.g 12 9) (H.c _) c4) ?_ (hg:=gq 5 rfl)
   refine .e rfl (fun H=>x_pkT (H.g 8 5) (H.g 13 10)) ?_
   refine .mv rfl 11 ?_
   refine .dk (fun u=>.agg #[x1,x2]::u1 0::u 12::sq u 0 12 []) K10 bel fun u2 w2 D bel=>?_
   have E2_12:=D.q 12
   clear D
   exact wp_ret (rt rfl E2_12 (zero_b c3 c4) bel)
 ·
  rcases Bool.eq_false_or_eq_true (x.im.num.sign == 0) with c11 | c11
  ·
   refine gs 2 (Amb S W) fun _ K12=>?_
   refine .bx rfl (fun H=>H.v 0 (.agg #[x1,x2])) ?_
   refine .mc rfl ?_
   refine .dk (fun u=>.agg #[x1,x2]::u 0::u 1::us 12) K12 bel fun u1 w1 D bel=>?_
   obtain ⟨b13,E1_0,A13,B13⟩:=D.nw 0
   have E1_1:=D.q 1
   replace F_x1:=D.gr (RatN x.re) F_x1
   replace F_x2:=D.gr (RatN x.im) F_x2
   clear D
   refine gs 13 (Amb S W) fun _ K14=>?_
   refine .fz rfl 1 0 E1_0 ?_
   refine .lc rfl 0 B13 ?_ (V:=x1)
   refine .cR rfl [] Tryz.func236 (fun H=>⟨_,ar1 (H.g 4 1),eRat _ (H.was _ [] F_x1)⟩) ?_
   refine .cK rfl Tryz.func140 (fun H=>⟨_,ar1 (H.r 5 2),qSign _ (SV.any (H.a 2 rfl))⟩) ?_
   refine .e rfl (V:=.bool false) (fun H=>x_cm (H.g 6 3) (H.c _) c3) ?_
   refine .mv rfl 4 ?_
   refine .sk rfl 5 ?_
   refine .sk rfl 5 ?_
   refine .sk rfl 5 ?_
   refine .sk rfl 5 ?_
   refine .sk rfl 5 ?_
   refine .e rfl (fun H=>x_pkF (H.g 8 5) (H.c _)) ?_
   refine .mv rfl 11 ?_
   refine .dk (fun u=>.agg #[x1,x2]::u1 0::u 12::sq u 0 12 []) K14 bel fun u2 w2 D bel=>?_
   have E2_12:=D.q 12
   clear D
   exact wp_ret (rt rfl E2_12 (zero_b c3 c11) bel)
  ·
   refine gs 2 (Amb S W) fun _ K15=>?_
   refine .bx rfl (fun H=>H.v 0 (.agg #[x1,x2])) ?_
   refine .mc rfl ?_
   refine .dk (fun u=>.agg #[x1,x2]::u 0::u 1::us 12) K15 bel fun u1 w1 D bel=>?_
   obtain ⟨b16,E1_0,A16,B16⟩:=D.nw 0
   have E1_1:=D.q 1
   replace F_x1:=D.gr (RatN x.re) F_x1
   replace F_x2:=D.gr (RatN x.im) F_x2
   clear D
   refine gs 13 (Amb S W) fun _ K17=>?_
   refine .fz rfl 1 0 E1_0 ?_
   refine .lc rfl 0 B16 ?_ (V:=x1)
   refine .cR rfl [] Tryz.func236 (fun H=>⟨_,ar1 (H.g 4 1),eRat _ (H.was _ [] F_x1)⟩) ?_
   refine .cK rfl Tryz.func140 (fun H=>⟨_,ar1 (H.r 5 2),qSign _ (SV.any (H.a 2 rfl))⟩) ?_
   refine .e rfl (V:=.bool false) (fun H=>x_cm (H.g 6 3) (H.c _) c3) ?_
   refine .mv rfl 4 ?_
   refine .sk rfl 5 ?_
   refine .sk rfl 5 ?_
   refine .sk rfl 5 ?_
   refine .sk rfl 5 ?_
   refine .sk rfl 5 ?_
   refine .e rfl (fun H=>x_pkF (H.g 8 5) (H.c _)) ?_
   refine .mv rfl 11 ?_
   refine .dk (fun u=>.agg #[x1,x2]::u1 0::u 12::sq u 0 12 []) K17 bel fun u2 w2 D bel=>?_
   have E2_12:=D.q 12
   clear D
   exact wp_ret (rt rfl E2_12 (zero_b c3 c11) bel)
theorem eAdd {v0:Value} {v1:Value} (x:Cx) (y:Cx) (t0:(NumP x).p S v0 W) (t1:(NumP y).p S v1 W) (p0:ht x.re + ht x.im + ht y.re + ht y.im ≤ 17179869184) :
  Calls Tryz.prog 177 #[v0,v1] W (Ret (NumP (x.add y)) S W):=by
 obtain ⟨x1,x2,rfl,F_x1,F_x2⟩:=t0
 replace F_x1:(RatN x.re).p (Amb S W) x1 W:=(RatN x.re).mono (fun _ _ h=>.inl h) F_x1
 replace F_x2:(RatN x.im).p (Amb S W) x2 W:=(RatN x.im).mono (fun _ _ h=>.inl h) F_x2
 obtain ⟨x3,x4,rfl,F_x3,F_x4⟩:=t1
 replace F_x3:(RatN y.re).p (Amb S W) x3 W:=(RatN y.re).mono (fun _ _ h=>.inl h) F_x3
 replace F_x4:(RatN y.im).p (Amb S W) x4 W:=(RatN y.im).mono (fun _ _ h=>.inl h) F_x4
 have bel:=b0 W
 go_enter Tryz.func177,Tryz.ntmps177
 refine gs 3 (Amb S W) fun _ K5=>?_
 refine .bx rfl (fun H=>H.v 0 (.agg #[x1,x2])) ?_
 refine .bx rfl (fun H=>H.v 1 (.agg #[x3,x4])) ?_
 refine .al rfl (#[.pointer none,.pointer none]) ?_
 refine .dk (fun u=>.agg #[x1,x2]::.agg #[x3,x4]::sq u 0 3 (us 17)) K5 bel fun u1 w1 D bel=>?_
 obtain ⟨b6,E1_0,A6,B6⟩:=D.nw 0
 obtain ⟨b7,E1_1,A7,B7⟩:=D.nw 1
 obtain ⟨b8,E1_2,A8,B8⟩:=D.nw 2
 have N6_8:=D.n2 0 2 E1_0 E1_2
 have N7_8:=D.n2 1 2 E1_1 E1_2
 replace F_x1:=D.gr (RatN x.re) F_x1
 replace F_x2:=D.gr (RatN x.im) F_x2
 replace F_x3:=D.gr (RatN y.re) F_x3
 replace F_x4:=D.gr (RatN y.im) F_x4
 clear D
 refine gd1 18 (Amb S W) 17 B8 fun _ K9=>?_
 refine .al rfl zQ ?_
 refine .fz rfl 2 0 E1_0 ?_
 refine .e rfl (V:=x1) (fun H=>x_ldc (H.g 6 1) (H.b1 B6 (Ne.symm N6_8))) ?_
 refine .cR rfl [] Tryz.func236 (fun H=>⟨_,ar1 (H.g 7 2),eRat _ (H.was _ [] F_x1)⟩) ?_
 refine .fz rfl 3 0 E1_1 ?_
 refine .e rfl (V:=x3) (fun H=>x_ldc (H.g 9 4) (H.b1 B7 (Ne.symm N7_8))) ?_
 refine .cR rfl [] Tryz.func236 (fun H=>⟨_,ar1 (H.g 10 5),eRat _ (H.was _ [] F_x3)⟩) ?_
 refine .cO rfl 0 Tryz.func203 (fun H h0 hz=>⟨_,ar3 (H.p 5 0 h0) (H.r 8 3) (H.r 11 6),qAdd _ _ (RatBlk.of hz) (SV.any (H.a 3 rfl)) (SV.any (H.a 6 rfl)) (by omega)⟩) ?_
 refine .al rfl zQ ?_
 refine .fz rfl 2 1 E1_0 ?_
 refine .e rfl (V:=x2) (fun H=>x_ldc (H.g 14 9) (H.b1 B6 (Ne.symm N6_8))) ?_
 refine .cR rfl [] Tryz.func236 (fun H=>⟨_,ar1 (H.g 15 10),eRat _ (H.was _ [] F_x2)⟩) ?_
 refine .fz rfl 3 1 E1_1 ?_
 refine .e rfl (V:=x4) (fun H=>x_ldc (H.g 17 12) (H.b1 B7 (Ne.symm N7_8))) ?_
 refine .cR rfl [] Tryz.func236 (fun H=>⟨_,ar1 (H.g 18 13),eRat _ (H.was _ [] F_x4)⟩) ?_
 refine .cO rfl 8 Tryz.func203 (fun H h0 hz=>⟨_,ar3 (H.p 13 8 h0) (H.r 16 11) (H.r 19 14),qAdd _ _ (RatBlk.of hz) (SV.any (H.a 11 rfl)) (SV.any (H.a 14 rfl)) (by omega)⟩) ?_
 refine Go2.fn (i:=16) rfl (G0 rfl) (SP.fnL 16 [7,15] (fun u=>.agg #[(u 7).v,(u 15).v]) (by intro u u' h; simp [h 7 (by simp),h 15 (by simp)])) (fun u μ ρ H=>⟨_,by have e12:=H.r 12 7; have e20:=H.r 20 15; obtain ⟨x7,h7⟩:=RatP.isPtr (Own.any (H.a 7 rfl)); obtain ⟨x15,h15⟩:=RatP.isPtr (Own.any (H.a 15 rfl)); clear H; go_simp,SP.fnL_upd (by decide)⟩) ?_
 refine Go2.storeOld (i:=17) 0 b8 rfl rfl rfl ⟨_,_,_,B8,rfl⟩ (SP.old 0 b8 [7,15] (fun u=>#[(u 7).v,(u 15).v]) 178 (by intro u u' h; simp [h 7 (by simp),h 15 (by simp)]) (lt_of B8) (by intro y k hy; match y,hy with | 0,hy=>rfl)) (fun u μ ρ H=>?_) ?_
 · have e4:=H.z 4 E1_2; have e21:=H.e 21 16 (by kernel_rfl) (H.a 16 rfl); have o7:=VP1.rat (Own.any (H.a 7 rfl)); have o15:=VP1.rat (Own.any (H.a 15 rfl)); have hb:=H.blkOld B8 0 17 rfl (.inl rfl)
   refine ⟨μ.setRow b8 #[(u 7).v,(u 15).v],ex_store_row 178 _ _ rfl e4 e21 hb (by kernel_rfl) rfl (by simp [o7,o15] <;> rfl),fun g=>?_,setRow_only _ _ _⟩
   show (World.setRow _ _ _).heap[b8]? = _
   rw [setRow_at hb]; try simp [upd]
 refine .d1 (fun u=>.agg #[x1,x2]::.agg #[x3,x4]::sq u1 0 3 (sq u 0 17 [])) K9 bel A8 fun u2 w2 D bel=>?_
 obtain ⟨b10,E2_7,A10,F10⟩:=D.ow 7
 obtain ⟨b11,E2_15,A11,F11⟩:=D.ow 15
 have N8_10:=D.n1 0 (lt_of B8) ((D.a 7 rfl).1.symm.trans E2_7)
 have N8_11:=D.n1 8 (lt_of B8) ((D.a 15 rfl).1.symm.trans E2_15)
 replace B8:w2.heap[b8]? = _:=(D.a 17 rfl)
 simp only [Value.cells,E2_7,E2_15] at B8
 have L10:Amb S W b10:=.inr A10
 have L11:Amb S W b11:=.inr A11
 clear D
 refine wp_ret ?_
 refine ret_ok rfl (by exact results_row rfl (by exact E1_2) B8 Tryz.underlying178 rfl (by kernel_rfl)) ⟨_,rfl,?_,bel⟩
 exact (NumP.mk (RatP.n (VP.at F10 L10)) (RatP.n (VP.at F11 L11)))
theorem eSub {v0:Value} {v1:Value} (x:Cx) (y:Cx) (t0:(NumP x).p S v0 W) (t1:(NumP y).p S v1 W) (p0:ht x.re + ht x.im + ht y.re + ht y.im ≤ 17179869184) :
  Calls Tryz.prog 135 #[v0,v1] W (Ret (NumP (x.sub y)) S W):=by
 obtain ⟨x1,x2,rfl,F_x1,F_x2⟩:=t0
 replace F_x1:(RatN x.re).p (Amb S W) x1 W:=(RatN x.re).mono (fun _ _ h=>.inl h) F_x1
 replace F_x2:(RatN x.im).p (Amb S W) x2 W:=(RatN x.im).mono (fun _ _ h=>.inl h) F_x2
 obtain ⟨x3,x4,rfl,F_x3,F_x4⟩:=t1
 replace F_x3:(RatN y.re).p (Amb S W) x3 W:=(RatN y.re).mono (fun _ _ h=>.inl h) F_x3
 replace F_x4:(RatN y.im).p (Amb S W) x4 W:=(RatN y.im).mono (fun _ _ h=>.inl h) F_x4
 have bel:=b0 W
 go_enter Tryz.func135,Tryz.ntmps135
 refine gs 3 (Amb S W) fun _ K5=>?_
 refine .bx rfl (fun H=>H.v 0 (.agg #[x1,x2])) ?_
 refine .bx rfl (fun H=>H.v 1 (.agg #[x3,x4])) ?_
 refine .al rfl (#[.pointer none,.pointer none]) ?_
 refine .dk (fun u=>.agg #[x1,x2]::.agg #[x3,x4]::sq u 0 3 (us 17)) K5 bel fun u1 w1 D bel=>?_
 obtain ⟨b6,E1_0,A6,B6⟩:=D.nw 0
 obtain ⟨b7,E1_1,A7,B7⟩:=D.nw 1
 obtain ⟨b8,E1_2,A8,B8⟩:=D.nw 2
 have N6_8:=D.n2 0 2 E1_0 E1_2
 have N7_8:=D.n2 1 2 E1_1 E1_2
 replace F_x1:=D.gr (RatN x.re) F_x1
 replace F_x2:=D.gr (RatN x.im) F_x2
 replace F_x3:=D.gr (RatN y.re) F_x3
 replace F_x4:=D.gr (RatN y.im) F_x4
 clear D
 refine gd1 18 (Amb S W) 17 B8 fun _ K9=>?_
 refine .al rfl zQ ?_
 refine .fz rfl 2 0 E1_0 ?_
 refine .e rfl (V:=x1) (fun H=>x_ldc (H.g 6 1) (H.b1 B6 (Ne.symm N6_8))) ?_
 refine .cR rfl [] Tryz.func236 (fun H=>⟨_,ar1 (H.g 7 2),eRat _ (H.was _ [] F_x1)⟩) ?_
 refine .fz rfl 3 0 E1_1 ?_
 refine .e rfl (V:=x3) (fun H=>x_ldc (H.g 9 4) (H.b1 B7 (Ne.symm N7_8))) ?_
 refine .cR rfl [] Tryz.func236 (fun H=>⟨_,ar1 (H.g 10 5),eRat _ (H.was _ [] F_x3)⟩) ?_
 refine .cO rfl 0 Tryz.func192 (fun H h0 hz=>⟨_,ar3 (H.p 5 0 h0) (H.r 8 3) (H.r 11 6),qSub _ _ (RatBlk.of hz) (SV.any (H.a 3 rfl)) (SV.any (H.a 6 rfl)) (by omega)⟩) ?_
 refine .al rfl zQ ?_
 refine .fz rfl 2 1 E1_0 ?_
 refine .e rfl (V:=x2) (fun H=>x_ldc (H.g 14 9) (H.b1 B6 (Ne.symm N6_8))) ?_
 refine .cR rfl [] Tryz.func236 (fun H=>⟨_,ar1 (H.g 15 10),eRat _ (H.was _ [] F_x2)⟩) ?_
 refine .fz rfl 3 1 E1_1 ?_
 refine .e rfl (V:=x4) (fun H=>x_ldc (H.g 17 12) (H.b1 B7 (Ne.symm N7_8))) ?_
 refine .cR rfl [] Tryz.func236 (fun H=>⟨_,ar1 (H.g 18 13),eRat _ (H.was _ [] F_x4)⟩) ?_
 refine .cO rfl 8 Tryz.func192 (fun H h0 hz=>⟨_,ar3 (H.p 13 8 h0) (H.r 16 11) (H.r 19 14),qSub _ _ (RatBlk.of hz) (SV.any (H.a 11 rfl)) (SV.any (H.a 14 rfl)) (by omega)⟩) ?_
 refine Go2.fn (i:=16) rfl (G0 rfl) (SP.fnL 16 [7,15] (fun u=>.agg #[(u 7).v,(u 15).v]) (by intro u u' h; simp [h 7 (by simp),h 15 (by simp)])) (fun u μ ρ H=>⟨_,by have e12:=H.r 12 7; have e20:=H.r 20 15; obtain ⟨x7,h7⟩:=RatP.isPtr (Own.any (H.a 7 rfl)); obtain ⟨x15,h15⟩:=RatP.isPtr (Own.any (H.a 15 rfl)); clear H; go_simp,SP.fnL_upd (by decide)⟩) ?_
 refine Go2.storeOld (i:=17) 0 b8 rfl rfl rfl ⟨_,_,_,B8,rfl⟩ (SP.old 0 b8 [7,15] (fun u=>#[(u 7).v,(u 15).v]) 178 (by intro u u' h; simp [h 7 (by simp),h 15 (by simp)]) (lt_of B8) (by intro y k hy; match y,hy with | 0,hy=>rfl)) (fun u μ ρ H=>?_) ?_
 · have e4:=H.z 4 E1_2; have e21:=H.e 21 16 (by kernel_rfl) (H.a 16 rfl); have o7:=VP1.rat (Own.any (H.a 7 rfl)); have o15:=VP1.rat (Own.any (H.a 15 rfl)); have hb:=H.blkOld B8 0 17 rfl (.inl rfl)
   refine ⟨μ.setRow b8 #[(u 7).v,(u 15).v],ex_store_row 178 _ _ rfl e4 e21 hb (by kernel_rfl) rfl (by simp [o7,o15] <;> rfl),fun g=>?_,setRow_only _ _ _⟩
   show (World.setRow _ _ _).heap[b8]? = _
   rw [setRow_at hb]; try simp [upd]
 refine .d1 (fun u=>.agg #[x1,x2]::.agg #[x3,x4]::sq u1 0 3 (sq u 0 17 [])) K9 bel A8 fun u2 w2 D bel=>?_
 obtain ⟨b10,E2_7,A10,F10⟩:=D.ow 7
 obtain ⟨b11,E2_15,A11,F11⟩:=D.ow 15
 have N8_10:=D.n1 0 (lt_of B8) ((D.a 7 rfl).1.symm.trans E2_7)
 have N8_11:=D.n1 8 (lt_of B8) ((D.a 15 rfl).1.symm.trans E2_15)
 replace B8:w2.heap[b8]? = _:=(D.a 17 rfl)
 simp only [Value.cells,E2_7,E2_15] at B8
 have L10:Amb S W b10:=.inr A10
 have L11:Amb S W b11:=.inr A11
 clear D
 refine wp_ret ?_
 refine ret_ok rfl (by exact results_row rfl (by exact E1_2) B8 Tryz.underlying178 rfl (by kernel_rfl)) ⟨_,rfl,?_,bel⟩
 exact (NumP.mk (RatP.n (VP.at F10 L10)) (RatP.n (VP.at F11 L11)))
theorem eNMul {v0:Value} {v1:Value} (x:Cx) (y:Cx) (t0:(NumP x).p S v0 W) (t1:(NumP y).p S v1 W) (p0:ht x.re + ht x.im + ht y.re + ht y.im ≤ 17179869184) :
  Calls Tryz.prog 137 #[v0,v1] W (Ret (NumP (x.mul y)) S W):=by
 obtain ⟨x1,x2,rfl,F_x1,F_x2⟩:=t0
 replace F_x1:(RatN x.re).p (Amb S W) x1 W:=(RatN x.re).mono (fun _ _ h=>.inl h) F_x1
 replace F_x2:(RatN x.im).p (Amb S W) x2 W:=(RatN x.im).mono (fun _ _ h=>.inl h) F_x2
 obtain ⟨x3,x4,rfl,F_x3,F_x4⟩:=t1
 replace F_x3:(RatN y.re).p (Amb S W) x3 W:=(RatN y.re).mono (fun _ _ h=>.inl h) F_x3
 replace F_x4:(RatN y.im).p (Amb S W) x4 W:=(RatN y.im).mono (fun _ _ h=>.inl h) F_x4
 have h1:=ht_mul x.re y.re
 have h2:=ht_mul x.im y.im
 have h3:=ht_mul x.re y.im
 have h4:=ht_mul x.im y.re
 have bel:=b0 W
 go_enter Tryz.func137,Tryz.ntmps137
 refine gs 3 (Amb S W) fun _ K5=>?_
 refine .bx rfl (fun H=>H.v 0 (.agg #[x1,x2])) ?_
 refine .bx rfl (fun H=>H.v 1 (.agg #[x3,x4])) ?_
 refine .al rfl (#[.pointer none,.pointer none]) ?_
 refine .dk (fun u=>.agg #[x1,x2]::.agg #[x3,x4]::sq u 0 3 (us 25)) K5 bel fun u1 w1 D bel=>?_
 obtain ⟨b6,E1_0,A6,B6⟩:=D.nw 0
 obtain ⟨b7,E1_1,A7,B7⟩:=D.nw 1
 obtain ⟨b8,E1_2,A8,B8⟩:=D.nw 2
 have N6_8:=D.n2 0 2 E1_0 E1_2
 have N7_8:=D.n2 1 2 E1_1 E1_2
 replace F_x1:=D.gr (RatN x.re) F_x1
 replace F_x2:=D.gr (RatN x.im) F_x2
 replace F_x3:=D.gr (RatN y.re) F_x3
 replace F_x4:=D.gr (RatN y.im) F_x4
 clear D
 refine gd1 26 (Amb S W) 25 B8 fun _ K9=>?_
 refine .al rfl zQ ?_
 refine .fz rfl 2 0 E1_0 ?_
 refine .e rfl (V:=x1) (fun H=>x_ldc (H.g 6 1) (H.b1 B6 (Ne.symm N6_8))) ?_
 refine .fz rfl 3 0 E1_1 ?_
 refine .e rfl (V:=x3) (fun H=>x_ldc (H.g 8 3) (H.b1 B7 (Ne.symm N7_8))) ?_
 refine .cR rfl [] Tryz.func237 (fun H=>⟨_,ar2 (H.g 7 2) (H.g 9 4),eMul _ _ (H.was _ [] F_x1) (H.was _ [] F_x3) (by omega)⟩) ?_
 refine .fz rfl 2 1 E1_0 ?_
 refine .e rfl (V:=x2) (fun H=>x_ldc (H.g 11 6) (H.b1 B6 (Ne.symm N6_8))) ?_
 refine .fz rfl 3 1 E1_1 ?_
 refine .e rfl (V:=x4) (fun H=>x_ldc (H.g 13 8) (H.b1 B7 (Ne.symm N7_8))) ?_
 refine .cR rfl [] Tryz.func237 (fun H=>⟨_,ar2 (H.g 12 7) (H.g 14 9),eMul _ _ (H.was _ [] F_x2) (H.was _ [] F_x4) (by omega)⟩) ?_
 refine .cO rfl 0 Tryz.func192 (fun H h0 hz=>⟨_,ar3 (H.p 5 0 h0) (H.r 10 5) (H.r 15 10),qSub _ _ (RatBlk.of hz) (SV.any (H.a 5 rfl)) (SV.any (H.a 10 rfl)) (by omega)⟩) ?_
 refine .al rfl zQ ?_
 refine .fz rfl 2 0 E1_0 ?_
 refine .e rfl (V:=x1) (fun H=>x_ldc (H.g 18 13) (H.b1 B6 (Ne.symm N6_8))) ?_
 refine .fz rfl 3 1 E1_1 ?_
 refine .e rfl (V:=x4) (fun H=>x_ldc (H.g 20 15) (H.b1 B7 (Ne.symm N7_8))) ?_
 refine .cR rfl [] Tryz.func237 (fun H=>⟨_,ar2 (H.g 19 14) (H.g 21 16),eMul _ _ (H.was _ [] F_x1) (H.was _ [] F_x4) (by omega)⟩) ?_
 refine .fz rfl 2 1 E1_0 ?_
 refine .e rfl (V:=x2) (fun H=>x_ldc (H.g 23 18) (H.b1 B6 (Ne.symm N6_8))) ?_
 refine .fz rfl 3 0 E1_1 ?_
 refine .e rfl (V:=x3) (fun H=>x_ldc (H.g 25 20) (H.b1 B7 (Ne.symm N7_8))) ?_
 refine .cR rfl [] Tryz.func237 (fun H=>⟨_,ar2 (H.g 24 19) (H.g 26 21),eMul _ _ (H.was _ [] F_x2) (H.was _ [] F_x3) (by omega)⟩) ?_
 refine .cO rfl 12 Tryz.func203 (fun H h0 hz=>⟨_,ar3 (H.p 17 12 h0) (H.r 22 17) (H.r 27 22),qAdd _ _ (RatBlk.of hz) (SV.any (H.a 17 rfl)) (SV.any (H.a 22 rfl)) (by omega)⟩) ?_
 refine Go2.fn (i:=24) rfl (G0 rfl) (SP.fnL 24 [11,23] (fun u=>.agg #[(u 11).v,(u 23).v]) (by intro u u' h; simp [h 11 (by simp),h 23 (by simp)])) (fun u μ ρ H=>⟨_,by have e16:=H.r 16 11; have e28:=H.r 28 23; obtain ⟨x11,h11⟩:=RatP.isPtr (Own.any (H.a 11 rfl)); obtain ⟨x23,h23⟩:=RatP.isPtr (Own.any (H.a 23 rfl)); clear H; go_simp,SP.fnL_upd (by decide)⟩) ?_
 refine Go2.storeOld (i:=25) 0 b8 rfl rfl rfl ⟨_,_,_,B8,rfl⟩ (SP.old 0 b8 [11,23] (fun u=>#[(u 11).v,(u 23).v]) 178 (by intro u u' h; simp [h 11 (by simp),h 23 (by simp)]) (lt_of B8) (by intro y k hy; match y,hy with | 0,hy=>rfl)) (fun u μ ρ H=>?_) ?_
 · have e4:=H.z 4 E1_2; have e29:=H.e 29 24 (by kernel_rfl) (H.a 24 rfl); have o11:=VP1.rat (Own.any (H.a 11 rfl)); have o23:=VP1.rat (Own.any (H.a 23 rfl)); have hb:=H.blkOld B8 0 25 rfl (.inl rfl)
   refine ⟨μ.setRow b8 #[(u 11).v,(u 23).v],ex_store_row 178 _ _ rfl e4 e29 hb (by kernel_rfl) rfl (by simp [o11,o23] <;> rfl),fun g=>?_,setRow_only _ _ _⟩
   show (World.setRow _ _ _).heap[b8]? = _
   rw [setRow_at hb]; try simp [upd]
 refine .d1 (fun u=>.agg #[x1,x2]::.agg #[x3,x4]::sq u1 0 3 (sq u 0 25 [])) K9 bel A8 fun u2 w2 D bel=>?_
 obtain ⟨b10,E2_11,A10,F10⟩:=D.ow 11
 obtain ⟨b11,E2_23,A11,F11⟩:=D.ow 23
 have N8_10:=D.n1 0 (lt_of B8) ((D.a 11 rfl).1.symm.trans E2_11)
 have N8_11:=D.n1 12 (lt_of B8) ((D.a 23 rfl).1.symm.trans E2_23)
 replace B8:w2.heap[b8]? = _:=(D.a 25 rfl)
 simp only [Value.cells,E2_11,E2_23] at B8
 have L10:Amb S W b10:=.inr A10
 have L11:Amb S W b11:=.inr A11
 clear D
 refine wp_ret ?_
 refine ret_ok rfl (by exact results_row rfl (by exact E1_2) B8 Tryz.underlying178 rfl (by kernel_rfl)) ⟨_,rfl,?_,bel⟩
 exact (NumP.mk (RatP.n (VP.at F10 L10)) (RatP.n (VP.at F11 L11)))
theorem eScale {v0:Value} {v1:Value} (x:Cx) (r:Rat) (t0:(NumP x).p S v0 W) (t1:(RatN r).p S v1 W) (p0:ht x.re + ht x.im + ht r ≤ 34359738368) :
  Calls Tryz.prog 200 #[v0,v1] W (Ret (NumP (x.scale r)) S W):=by
 obtain ⟨x1,x2,rfl,F_x1,F_x2⟩:=t0
 replace F_x1:(RatN x.re).p (Amb S W) x1 W:=(RatN x.re).mono (fun _ _ h=>.inl h) F_x1
 replace F_x2:(RatN x.im).p (Amb S W) x2 W:=(RatN x.im).mono (fun _ _ h=>.inl h) F_x2
 have F_v1:(RatN r).p (Amb S W) v1 W:=(RatN r).mono (fun _ _ h=>.inl h) t1
 have bel:=b0 W
 go_enter Tryz.func200,Tryz.ntmps200
 refine gs 2 (Amb S W) fun _ K3=>?_
 refine .bx rfl (fun H=>H.v 0 (.agg #[x1,x2])) ?_
 refine .al rfl (#[.pointer none,.pointer none]) ?_
 refine .dk (fun u=>.agg #[x1,x2]::v1::u 0::U::u 1::us 9) K3 bel fun u1 w1 D bel=>?_
 obtain ⟨b4,E1_0,A4,B4⟩:=D.nw 0
 obtain ⟨b5,E1_1,A5,B5⟩:=D.nw 1
 have N4_5:=D.n2 0 1 E1_0 E1_1
 replace F_x1:=D.gr (RatN x.re) F_x1
 replace F_x2:=D.gr (RatN x.im) F_x2
 replace F_v1:=D.gr (RatN r) F_v1
 clear D
 refine gd1 10 (Amb S W) 9 B5 fun _ K6=>?_
 refine .fz rfl 2 0 E1_0 ?_
 refine .e rfl (V:=x1) (fun H=>x_ldc (H.g 5 0) (H.b1 B4 (Ne.symm N4_5))) ?_
 refine .mz rfl 1 (V:=v1) rfl ?_
 refine .cR rfl [] Tryz.func237 (fun H=>⟨_,ar2 (H.g 6 1) (H.g 7 2),eMul _ _ (H.was _ [] F_x1) (H.was _ [] F_v1) (by omega)⟩) ?_
 refine .fz rfl 2 1 E1_0 ?_
 refine .e rfl (V:=x2) (fun H=>x_ldc (H.g 9 4) (H.b1 B4 (Ne.symm N4_5))) ?_
 refine .mz rfl 1 (V:=v1) rfl ?_
 refine .cR rfl [] Tryz.func237 (fun H=>⟨_,ar2 (H.g 10 5) (H.g 11 6),eMul _ _ (H.was _ [] F_x2) (H.was _ [] F_v1) (by omega)⟩) ?_
 refine Go2.fn (i:=8) rfl (G0 rfl) (SP.fnL 8 [3,7] (fun u=>.agg #[(u 3).v,(u 7).v]) (by intro u u' h; simp [h 3 (by simp),h 7 (by simp)])) (fun u μ ρ H=>⟨_,by have e8:=H.r 8 3; have e12:=H.r 12 7; obtain ⟨x3,h3⟩:=RatP.isPtr (H.a 3 rfl); obtain ⟨x7,h7⟩:=RatP.isPtr (H.a 7 rfl); clear H; go_simp,SP.fnL_upd (by decide)⟩) ?_
 refine Go2.storeOld (i:=9) 0 b5 rfl rfl rfl ⟨_,_,_,B5,rfl⟩ (SP.old 0 b5 [3,7] (fun u=>#[(u 3).v,(u 7).v]) 178 (by intro u u' h; simp [h 3 (by simp),h 7 (by simp)]) (lt_of B5) (by intro y k hy; match y,hy with | 0,hy=>rfl)) (fun u μ ρ H=>?_) ?_
 · have e4:=H.z 4 E1_1; have e13:=H.e 13 8 (by kernel_rfl) (H.a 8 rfl); have o3:=VP1.rat (H.a 3 rfl); have o7:=VP1.rat (H.a 7 rfl); have hb:=H.blkOld B5 0 9 rfl (.inl rfl)
   refine ⟨μ.setRow b5 #[(u 3).v,(u 7).v],ex_store_row 178 _ _ rfl e4 e13 hb (by kernel_rfl) rfl (by simp [o3,o7] <;> rfl),fun g=>?_,setRow_only _ _ _⟩
   show (World.setRow _ _ _).heap[b5]? = _
   rw [setRow_at hb]; try simp [upd]
 refine .d1 (fun u=>.agg #[x1,x2]::v1::u1 0::U::u1 1::sq u 0 9 []) K6 bel A5 fun u2 w2 D bel=>?_
 obtain ⟨b7,E2_3,L7,F7⟩:=RatP.elim (D.rr 3)
 obtain ⟨b8,E2_7,L8,F8⟩:=RatP.elim (D.rr 7)
 replace B5:w2.heap[b5]? = _:=(D.a 9 rfl)
 simp only [Value.cells,E2_3,E2_7] at B5
 clear D
 refine wp_ret ?_
 refine ret_ok rfl (by exact results_row rfl (by exact E1_1) B5 Tryz.underlying178 rfl (by kernel_rfl)) ⟨_,rfl,?_,bel⟩
 exact (NumP.mk (RatP.n (VP.at F7 L7)) (RatP.n (VP.at F8 L8)))
theorem eNorm {v0:Value} (x:Cx) (t0:(NumP x).p S v0 W) (p0:ht x.re + ht x.im ≤ 8589934592) :
  Calls Tryz.prog 201 #[v0] W (Ret (RatP x.norm) S W):=by
 obtain ⟨x1,x2,rfl,F_x1,F_x2⟩:=t0
 replace F_x1:(RatN x.re).p (Amb S W) x1 W:=(RatN x.re).mono (fun _ _ h=>.inl h) F_x1
 replace F_x2:(RatN x.im).p (Amb S W) x2 W:=(RatN x.im).mono (fun _ _ h=>.inl h) F_x2
 have h1:=ht_mul x.re x.re
 have h2:=ht_mul x.im x.im
 have bel:=b0 W
 go_enter Tryz.func201,Tryz.ntmps201
 refine gs 2 (Amb S W) fun _ K3=>?_
 refine .bx rfl (fun H=>H.v 0 (.agg #[x1,x2])) ?_
 refine .mc rfl ?_
 refine .dk (fun u=>.agg #[x1,x2]::u 0::u 1::us 12) K3 bel fun u1 w1 D bel=>?_
 obtain ⟨b4,E1_0,A4,B4⟩:=D.nw 0
 have E1_1:=D.q 1
 replace F_x1:=D.gr (RatN x.re) F_x1
 replace F_x2:=D.gr (RatN x.im) F_x2
 clear D
 refine gd 13 (Amb S W) fun _ K5=>?_
 refine .al rfl zQ ?_
 refine .fz rfl 1 0 E1_0 ?_
 refine .lc rfl 1 B4 ?_ (V:=x1)
 refine .fz rfl 1 0 E1_0 ?_
 refine .lc rfl 3 B4 ?_ (V:=x1)
 refine .cR rfl [] Tryz.func237 (fun H=>⟨_,ar2 (H.g 5 2) (H.g 7 4),eMul _ _ (H.was _ [] F_x1) (H.was _ [] F_x1) (by omega)⟩) ?_
 refine .fz rfl 1 1 E1_0 ?_
 refine .lc rfl 6 B4 ?_ (V:=x2)
 refine .fz rfl 1 1 E1_0 ?_
 refine .lc rfl 8 B4 ?_ (V:=x2)
 refine .cR rfl [] Tryz.func237 (fun H=>⟨_,ar2 (H.g 10 7) (H.g 12 9),eMul _ _ (H.was _ [] F_x2) (H.was _ [] F_x2) (by omega)⟩) ?_
 refine .cO rfl 0 Tryz.func203 (fun H h0 hz=>⟨_,ar3 (H.p 3 0 h0) (H.r 8 5) (H.r 13 10),qAdd _ _ (RatBlk.of hz) (SV.any (H.a 5 rfl)) (SV.any (H.a 10 rfl)) (by omega)⟩) ?_
 refine .mo rfl 11 ?_
 refine .dk (fun u=>.agg #[x1,x2]::u1 0::u 12::sq u 0 12 []) K5 bel fun u2 w2 D bel=>?_
 obtain ⟨b6,E2_12,A6,F6⟩:=D.ow 12
 have L6:Amb S W b6:=.inr A6
 clear D
 refine wp_ret ?_
 refine ret_ok rfl (by exact results_tmp' rfl (by exact E2_12)) ⟨_,rfl,?_,bel⟩
 exact (VP.at F6 L6)
theorem eConj {v0:Value} (x:Cx) (t0:(NumP x).p S v0 W) (p0:ht x.re + ht x.im ≤ 8589934592) :
  Calls Tryz.prog 136 #[v0] W (Ret (NumP x.conj) S W):=by
 obtain ⟨x1,x2,rfl,F_x1,F_x2⟩:=t0
 replace F_x1:(RatN x.re).p (Amb S W) x1 W:=(RatN x.re).mono (fun _ _ h=>.inl h) F_x1
 replace F_x2:(RatN x.im).p (Amb S W) x2 W:=(RatN x.im).mono (fun _ _ h=>.inl h) F_x2
 have bel:=b0 W
 go_enter Tryz.func136,Tryz.ntmps136
 refine gs 2 (Amb S W) fun _ K3=>?_
 refine .bx rfl (fun H=>H.v 0 (.agg #[x1,x2])) ?_
 refine .al rfl (#[.pointer none,.pointer none]) ?_
 refine .dk (fun u=>.agg #[x1,x2]::u 0::u 1::us 9) K3 bel fun u1 w1 D bel=>?_
 obtain ⟨b4,E1_0,A4,B4⟩:=D.nw 0
 obtain ⟨b5,E1_1,A5,B5⟩:=D.nw 1
 have N4_5:=D.n2 0 1 E1_0 E1_1
 replace F_x1:=D.gr (RatN x.re) F_x1
 replace F_x2:=D.gr (RatN x.im) F_x2
 clear D
 refine gd1 10 (Amb S W) 9 B5 fun _ K6=>?_
 refine .fz rfl 1 0 E1_0 ?_
 refine .e rfl (V:=x1) (fun H=>x_ldc (H.g 3 0) (H.b1 B4 (Ne.symm N4_5))) ?_
 refine .cR rfl [] Tryz.func236 (fun H=>⟨_,ar1 (H.g 4 1),eRat _ (H.was _ [] F_x1)⟩) ?_
 refine .al rfl zQ ?_
 refine .fz rfl 1 1 E1_0 ?_
 refine .e rfl (V:=x2) (fun H=>x_ldc (H.g 7 4) (H.b1 B4 (Ne.symm N4_5))) ?_
 refine .cR rfl [] Tryz.func236 (fun H=>⟨_,ar1 (H.g 8 5),eRat _ (H.was _ [] F_x2)⟩) ?_
 refine .cO rfl 3 Tryz.func189 (fun H h0 hz=>⟨_,ar2 (H.p 6 3 h0) (H.r 9 6),qNeg (x:=_) (RatBlk.of hz) (SV.any (H.a 6 rfl)) (by omega)⟩) ?_
 refine Go2.fn (i:=8) rfl (G0 rfl) (SP.fnL 8 [2,7] (fun u=>.agg #[(u 2).v,(u 7).v]) (by intro u u' h; simp [h 2 (by simp),h 7 (by simp)])) (fun u μ ρ H=>⟨_,by have e5:=H.r 5 2; have e10:=H.r 10 7; obtain ⟨x2,h2⟩:=RatP.isPtr (H.a 2 rfl); obtain ⟨x7,h7⟩:=RatP.isPtr (Own.any (H.a 7 rfl)); clear H; go_simp,SP.fnL_upd (by decide)⟩) ?_
 refine Go2.storeOld (i:=9) 0 b5 rfl rfl rfl ⟨_,_,_,B5,rfl⟩ (SP.old 0 b5 [2,7] (fun u=>#[(u 2).v,(u 7).v]) 178 (by intro u u' h; simp [h 2 (by simp),h 7 (by simp)]) (lt_of B5) (by intro y k hy; match y,hy with | 0,hy=>rfl)) (fun u μ ρ H=>?_) ?_
 · have e2:=H.z 2 E1_1; have e11:=H.e 11 8 (by kernel_rfl) (H.a 8 rfl); have o2:=VP1.rat (H.a 2 rfl); have o7:=VP1.rat (Own.any (H.a 7 rfl)); have hb:=H.blkOld B5 0 9 rfl (.inl rfl)
   refine ⟨μ.setRow b5 #[(u 2).v,(u 7).v],ex_store_row 178 _ _ rfl e2 e11 hb (by kernel_rfl) rfl (by simp [o2,o7] <;> rfl),fun g=>?_,setRow_only _ _ _⟩
   show (World.setRow _ _ _).heap[b5]? = _
   rw [setRow_at hb]; try simp [upd]
 refine .d1 (fun u=>.agg #[x1,x2]::u1 0::u1 1::sq u 0 9 []) K6 bel A5 fun u2 w2 D bel=>?_
 obtain ⟨b7,E2_2,L7,F7⟩:=RatP.elim (D.rr 2)
 obtain ⟨b8,E2_7,A8,F8⟩:=D.ow 7
 have N5_8:=D.n1 3 (lt_of B5) ((D.a 7 rfl).1.symm.trans E2_7)
 replace B5:w2.heap[b5]? = _:=(D.a 9 rfl)
 simp only [Value.cells,E2_2,E2_7] at B5
 have L8:Amb S W b8:=.inr A8
 clear D
 refine wp_ret ?_
 refine ret_ok rfl (by exact results_row rfl (by exact E1_1) B5 Tryz.underlying178 rfl (by kernel_rfl)) ⟨_,rfl,?_,bel⟩
 exact (NumP.mk (RatP.n (VP.at F7 L7)) (RatP.n (VP.at F8 L8)))
theorem eFrac {v0:Value} (x:Rat) (t0:(RatN x).p S v0 W) (p0:ht x ≤ 68719476736) :
  Calls Tryz.prog 213 #[v0] W (RetV (.tuple #[.agg #[.bool (fcut x).a.n,.string (fcut x).a.s,.bool (fcut x).b.n,.string (fcut x).b.s],.int .i64 (ferr x)]) W):=by
 have F_v0:(RatN x).p (Amb S W) v0 W:=(RatN x).mono (fun _ _ h=>.inl h) t0
 have n0:=hi_num x
 have n2:=hi_den x
 have bel:=b0 W
 go_enter Tryz.func213,Tryz.ntmps213
 refine gs 2 (Amb S W) fun _ K1=>?_
 refine .al rfl zF ?_
 refine .mc rfl ?_
 refine .dk (fun u=>v0::U::u 0::u 1::us 29) K1 bel fun u1 w1 D bel=>?_
 obtain ⟨b2,E1_0,A2,B2⟩:=D.nw 0
 have E1_1:=D.q 1
 replace F_v0:=D.gr (RatN x) F_v0
 clear D
 refine wp_seq_k fun _ K3=>?_
 refine wp_region_list ?_
 refine wpT_val rfl (ex_move rfl) ?_
 refine wpT_callR (args:=#[v0]) (φ:=(RatP x)) (S:=Amb S W) rfl (ex_call rfl rfl Tryz.func236 (by kernel_rfl) (by kernel_rfl) (by simp only [List.map_toArray,List.map_cons,List.map_nil]; rfl)) (eRat (x:=x) F_v0 ) fun vw4 w4 fw4 ow4=>?_
 obtain ⟨b5,rfl,L5,F5⟩:=RatP.elim fw4
 replace L5:Amb S W b5:=L5.elim id (fun h=>.inr (Nat.le_trans bel.size h))
 replace B2:=(ow4.block b2 (lt_of B2)).trans B2
 replace F_v0:=(RatN x).grow (Rgn.Below.growS ow4 (Nat.le_refl _) _) F_v0
 replace bel:=bel.trans (ow4.mono bel.size)
 refine wpT_val rfl (ex_assign rfl) ?_
 refine wpList_nil ?_
 show _
 refine K3 _ _ ?_
 refine gs 8 (Amb S W) fun _ K6=>?_
 refine .mz rfl 0 (V:=pt b5) rfl ?_
 refine .cR rfl [] Tryz.func258 (fun H=>⟨_,ar1 (H.g 8 0),qNum _ (H.was _ [] (VP.at F5 L5)) (by omega)⟩) ?_
 refine .cR rfl [1] Tryz.func266 (fun H=>⟨_,ar1 (H.r 9 1),bBytes _ (IntO.p (SV.sub [1] (H.a 1 rfl) rfl)) (by omega)⟩) ?_
 refine .mz rfl 0 (V:=pt b5) rfl ?_
 refine .cR rfl [] Tryz.func259 (fun H=>⟨_,ar1 (H.g 11 3),qDenom _ (H.was _ [] (VP.at F5 L5)) (by omega)⟩) ?_
 refine .cR rfl [4] Tryz.func266 (fun H=>⟨_,ar1 (H.r 12 4),bBytes _ (IntO.p (SV.sub [4] (H.a 4 rfl) rfl)) (by omega)⟩) ?_
 refine .mn rfl 2 [1,2] ?_
 refine .mn rfl 5 [4,5] ?_
 refine .dk (fun u=>pt b5::U::u1 0::u1 1::u 6::u 7::v0::pt b5::sq u 0 6 (us 19)) K6 bel fun u3 w3 D bel=>?_
 obtain ⟨x7,E3_6,F_x7⟩:∃ x_,(u3 6).v = x_ ∧ (BytP x.num.natAbs).p (Amb S W) x_ w3:=⟨_,rfl,D.rr 6⟩
 obtain ⟨x8,E3_7,F_x8⟩:∃ x_,(u3 7).v = x_ ∧ (BytP ((x.den:Int).natAbs)).p (Amb S W) x_ w3:=⟨_,rfl,D.rr 7⟩
 replace B2:=D.k B2
 replace F5:=D.o L5 F5
 clear D
 refine wp_seq_k fun _ K9=>?_
 rcases Bool.eq_false_or_eq_true (decide (1024 < (((bS x.num.natAbs).size:Nat):Int))) with c11 | c11
 ·
  have dc11:=of_decide_eq_true c11
  refine gs 8 (Amb S W) fun _ K10=>?_
  refine .mz rfl 4 E3_6 ?_
  refine .e rfl (V:=.int .i64 (((bS x.num.natAbs).size:Nat):Int)) (fun H=>by have e_:=(H.g 14 0); obtain ⟨_,_,_,_,_,hv_,_⟩:=(show Byts _ _ _ from (VP.any _ (H.was _ [] F_x7))); rw [hv_] at e_; rw [bS_len]; clear H; go_simp) ?_
  refine .e rfl (V:=.bool true) (fun H=>x_cm (H.g 15 1) (H.c _) c11) ?_
  refine .mv rfl 2 ?_
  refine .sk rfl 3 ?_
  refine .sk rfl 3 ?_
  refine .sk rfl 3 ?_
  refine .e rfl (fun H=>x_pkT (H.g 17 3) (H.c _)) ?_
  refine .dk (fun u=>pt b5::U::u1 0::u1 1::u3 6::u3 7::v0::pt b5::sq u3 0 6 (sq u 0 8 (us 11))) K10 bel fun u4 w4 D bel=>?_
  have E4_7:=D.q 7
  replace B2:=D.k B2
  replace F5:=D.o L5 F5
  replace F_x7:=D.gr (BytP x.num.natAbs) F_x7
  replace F_x8:=D.gr (BytP ((x.den:Int).natAbs)) F_x8
  clear D
  refine wp_cond_true (by exact E4_7) ?_
  refine gs1 3 (Amb S W) 1 B2 fun _ K12=>?_
  refine .e rfl (V:=.agg zF) (fun H=>by clear H; go_simp) ?_
  refine .s1 rfl B2 (fun H=>⟨H.z 2 E1_0,H.g 22 0⟩) ?_
  refine .mc rfl ?_
  refine .d1 (fun u=>pt b5::U::u1 0::u 2::u3 6::u3 7::v0::pt b5::sq u3 0 6 (sq u4 0 8 (u 0::us 10))) K12 bel A2 fun u5 w5 D bel=>?_
  have E5_2:=D.q 2
  replace B2:=D.ol 1
  clear D
  refine wp_ret ?_
  refine ret_ok rfl (by exact results_mix rfl (by exact E1_0) B2 Tryz.underlying25 rfl (by kernel_rfl) (by exact E5_2)) (RetV.mk ?_ bel)
  exact congrArg Ending.returned (fcut_no (fcut_2 c11))
 ·
  have dc11:=of_decide_eq_false c11
  refine gs 8 (Amb S W) fun _ K10=>?_
  refine .mz rfl 4 E3_6 ?_
  refine .e rfl (V:=.int .i64 (((bS x.num.natAbs).size:Nat):Int)) (fun H=>by have e_:=(H.g 14 0); obtain ⟨_,_,_,_,_,hv_,_⟩:=(show Byts _ _ _ from (VP.any _ (H.was _ [] F_x7))); rw [hv_] at e_; rw [bS_len]; clear H; go_simp) ?_
  refine .e rfl (V:=.bool false) (fun H=>x_cm (H.g 15 1) (H.c _) c11) ?_
  refine .mv rfl 2 ?_
  refine .mz rfl 5 E3_7 ?_ (hg:=gq 3 rfl)
  refine .e rfl (V:=.int .i64 (((bS ((x.den:Int).natAbs)).size:Nat):Int)) (fun H=>by have e_:=(H.g 18 4); obtain ⟨_,_,_,_,_,hv_,_⟩:=(show Byts _ _ _ from (VP.any _ (H.was _ [] F_x8))); rw [hv_] at e_; rw [bS_len]; clear H; go_simp) ?_ (hg:=gq 3 rfl)
  refine .e rfl (V:=.bool (decide (1024 < (((bS ((x.den:Int).natAbs)).size:Nat):Int)))) (fun H=>x_cmp (H.g 19 5) (H.c _)) ?_ (hg:=gq 3 rfl)
  refine .e rfl (fun H=>x_pkF (H.g 17 3) (H.g 20 6)) ?_
  refine .dk (fun u=>pt b5::U::u1 0::u1 1::u3 6::u3 7::v0::pt b5::sq u3 0 6 (sq u 0 8 (us 11))) K10 bel fun u4 w4 D bel=>?_
  have E4_7:=D.q 7
  replace B2:=D.k B2
  replace F5:=D.o L5 F5
  replace F_x7:=D.gr (BytP x.num.natAbs) F_x7
  replace F_x8:=D.gr (BytP ((x.den:Int).natAbs)) F_x8
  clear D
  rcases Bool.eq_false_or_eq_true (decide (1024 < (((bS ((x.den:Int).natAbs)).size:Nat):Int))) with c13 | c13
  ·
   refine wp_cond_true ((E4_7).trans (congrArg Value.bool c13)) ?_
   have dc13:=of_decide_eq_true c13
   refine gs1 3 (Amb S W) 1 B2 fun _ K14=>?_
   refine .e rfl (V:=.agg zF) (fun H=>by clear H; go_simp) ?_
   refine .s1 rfl B2 (fun H=>⟨H.z 2 E1_0,H.g 22 0⟩) ?_
   refine .mc rfl ?_
   refine .d1 (fun u=>pt b5::U::u1 0::u 2::u3 6::u3 7::v0::pt b5::sq u3 0 6 (sq u4 0 8 (u 0::us 10))) K14 bel A2 fun u5 w5 D bel=>?_
   have E5_2:=D.q 2
   replace B2:=D.ol 1
   clear D
   refine wp_ret ?_
   refine ret_ok rfl (by exact results_mix rfl (by exact E1_0) B2 Tryz.underlying25 rfl (by kernel_rfl) (by exact E5_2)) (RetV.mk ?_ bel)
   exact congrArg Ending.returned (fcut_no (fcut_3 c13))
  ·
   refine wp_cond_false ((E4_7).trans (congrArg Value.bool c13)) ?_
   have dc13:=of_decide_eq_false c13
   refine wp_skip ?_
   refine K9 _ _ ?_
   refine gd1 12 (Amb S W) 10 B2 fun _ K15=>?_
   refine .mz rfl 0 (V:=pt b5) rfl ?_
   refine .cK rfl Tryz.func140 (fun H=>⟨_,ar1 (H.g 23 0),qSign _ (VP.any _ (H.was _ [] (VP.at F5 L5)))⟩) ?_
   refine .e rfl (V:=.bool (decide (x.num.sign < 0))) (fun H=>x_cmp (H.g 24 1) (H.c _)) ?_
   refine .mz rfl 4 E3_6 ?_
   refine Go2.eq (i:=4) rfl (G0 rfl) (V:=.string (bS x.num.natAbs)) (by intro u μ ρ H; exact ex_conv rfl (H.g 26 3) (Byts.str (VP.any _ (H.was _ [] F_x7)))) ?_
   refine .e rfl (V:=.agg #[.bool (decide (x.num.sign < 0)),.string (bS x.num.natAbs)]) (fun H=>by have e25:=H.g 25 2; have e27:=H.g 27 4; clear H; go_simp) ?_
   refine .mz rfl 5 E3_7 ?_
   refine Go2.eq (i:=7) rfl (G0 rfl) (V:=.string (bS ((x.den:Int).natAbs))) (by intro u μ ρ H; exact ex_conv rfl (H.g 29 6) (Byts.str (VP.any _ (H.was _ [] F_x8)))) ?_
   refine .e rfl (V:=.agg #[.bool false,.string (bS ((x.den:Int).natAbs))]) (fun H=>by have e30:=H.g 30 7; clear H; go_simp) ?_
   refine .e rfl (V:=.agg #[.bool (decide (x.num.sign < 0)),.string (bS x.num.natAbs),.bool false,.string (bS ((x.den:Int).natAbs))]) (fun H=>by have e28:=H.g 28 5; have e31:=H.g 31 8; clear H; go_simp) ?_
   refine .s1 rfl B2 (fun H=>⟨H.z 2 E1_0,H.g 32 9⟩) ?_
   refine .mc rfl ?_
   refine .d1 (fun u=>pt b5::U::u1 0::u 11::u3 6::u3 7::v0::pt b5::sq u3 0 6 (sq u4 0 8 (U::sq u 0 10 []))) K15 bel A2 fun u6 w6 D bel=>?_
   have E6_11:=D.q 11
   replace B2:=D.ol 10
   clear D
   refine wp_ret ?_
   refine ret_ok rfl (by exact results_mix rfl (by exact E1_0) B2 Tryz.underlying25 rfl (by kernel_rfl) (by exact E6_11)) (RetV.mk ?_ bel)
   exact congrArg Ending.returned (ecut_yes (fcut_1 c11 c13))
theorem eInt (m:Int) (n:Int) (p0:-9223372036854775808 ≤ m) (p1:m ≤ 9223372036854775807) (p2:-9223372036854775808 ≤ n) (p3:n ≤ 9223372036854775807) :
  Calls Tryz.prog 133 #[.int .i64 m,.int .i64 n] W (Ret (NumP (Cx.ofInt m n)) S W):=by
 have bel:=b0 W
 go_enter Tryz.func133,Tryz.ntmps133
 refine gs 1 (Amb S W) fun _ K1=>?_
 refine .al rfl (#[.pointer none,.pointer none]) ?_
 refine .dk (fun u=>.int .i64 m::.int .i64 n::U::U::u 0::us 5) K1 bel fun u1 w1 D bel=>?_
 obtain ⟨b2,E1_0,A2,B2⟩:=D.nw 0
 clear D
 refine gs1 6 (Amb S W) 5 B2 fun _ K3=>?_
 refine .mz rfl 0 (V:=.int .i64 m) rfl ?_
 refine .cR rfl [] Tryz.func132 (fun H=>⟨_,ar2 (H.g 5 0) (H.c (.int .i64 1)),qNewRat _ _ (by omega) (by omega) (by omega) (by omega) (by omega)⟩) ?_
 refine .mz rfl 1 (V:=.int .i64 n) rfl ?_
 refine .cR rfl [] Tryz.func132 (fun H=>⟨_,ar2 (H.g 7 2) (H.c (.int .i64 1)),qNewRat _ _ (by omega) (by omega) (by omega) (by omega) (by omega)⟩) ?_
 refine Go2.fn (i:=4) rfl (G0 rfl) (SP.fnL 4 [1,3] (fun u=>.agg #[(u 1).v,(u 3).v]) (by intro u u' h; simp [h 1 (by simp),h 3 (by simp)])) (fun u μ ρ H=>⟨_,by have e6:=H.r 6 1; have e8:=H.r 8 3; obtain ⟨x1,h1⟩:=RatP.isPtr (H.a 1 rfl); obtain ⟨x3,h3⟩:=RatP.isPtr (H.a 3 rfl); clear H; go_simp,SP.fnL_upd (by decide)⟩) ?_
 refine Go2.storeOld (i:=5) 0 b2 rfl rfl rfl ⟨_,_,_,B2,rfl⟩ (SP.old 0 b2 [1,3] (fun u=>#[(u 1).v,(u 3).v]) 178 (by intro u u' h; simp [h 1 (by simp),h 3 (by simp)]) (lt_of B2) (by intro y k hy; match y,hy with | 0,hy=>rfl)) (fun u μ ρ H=>?_) ?_
 · have e4:=H.z 4 E1_0; have e9:=H.e 9 4 (by kernel_rfl) (H.a 4 rfl); have o1:=VP1.rat (H.a 1 rfl); have o3:=VP1.rat (H.a 3 rfl); have hb:=H.blkOld B2 0 5 rfl (.inl rfl)
   refine ⟨μ.setRow b2 #[(u 1).v,(u 3).v],ex_store_row 178 _ _ rfl e4 e9 hb (by kernel_rfl) rfl (by simp [o1,o3] <;> rfl),fun g=>?_,setRow_only _ _ _⟩
   show (World.setRow _ _ _).heap[b2]? = _
   rw [setRow_at hb]; try simp [upd]
 refine .d1 (fun u=>.int .i64 m::.int .i64 n::U::U::u1 0::sq u 0 5 []) K3 bel A2 fun u2 w2 D bel=>?_
 obtain ⟨b4,E2_1,L4,F4⟩:=RatP.elim (D.rr 1)
 obtain ⟨b5,E2_3,L5,F5⟩:=RatP.elim (D.rr 3)
 replace B2:w2.heap[b2]? = _:=(D.a 5 rfl)
 simp only [Value.cells,E2_1,E2_3] at B2
 clear D
 refine wp_ret ?_
 refine ret_ok rfl (by exact results_row rfl (by exact E1_0) B2 Tryz.underlying178 rfl (by kernel_rfl)) ⟨_,rfl,?_,bel⟩
 exact num_eq (num_int m n) (NumP.mk (RatP.n (VP.at F4 L4)) (RatP.n (VP.at F5 L5)))
theorem eWhole (x:Int) (p0:hi x ≤ 1099511627000) :
  Calls Tryz.prog 257 #[wV x] W (Ret (IntO x) S W):=by
 have q0:=hi_bl x
 have q1:=hi_nat x.natAbs
 have bel:=b0 W
 go_enter Tryz.func257,Tryz.ntmps257
 refine gs 2 (Amb S W) fun _ K1=>?_
 refine .bx rfl (fun H=>H.v 0 (wV x)) ?_
 refine .mc rfl ?_
 refine .dk (fun u=>wV x::u 0::u 1::us 12) K1 bel fun u1 w1 D bel=>?_
 obtain ⟨b2,E1_0,A2,B2⟩:=D.nw 0
 have E1_1:=D.q 1
 clear D
 refine gs 6 (Amb S W) fun _ K3=>?_
 refine .al rfl zI ?_
 refine .fz rfl 1 1 E1_0 ?_
 refine .lc rfl 1 B2 ?_ (V:=.string (bS x.natAbs))
 refine Go2.grow (i:=3) rfl (G0 rfl) (.val 3 [] (BytP x.natAbs)) (fun u μ ρ H=>by have e6:=H.g 6 2; obtain ⟨v_,w_,hr_,hm_,hb_⟩:=conv_byt x.natAbs μ (by omega); exact ⟨v_,w_,ex_conv rfl e6 hr_,SP.bytVal hm_,hb_⟩) ?_
 refine .cO rfl 0 Tryz.func287 (fun H h0 hz=>⟨_,ar2 (H.p 4 0 h0) (H.r 7 3),bSetBytes (n:=_) (IntBlk.of hz) (SV.any (H.a 3 rfl)) (by omega)⟩) ?_
 refine .mo rfl 4 ?_
 refine .dk (fun u=>wV x::u1 0::u1 1::u 5::sq u 0 5 (us 6)) K3 bel fun u2 w2 D bel=>?_
 obtain ⟨b4,E2_5,A4,F4⟩:=D.ow 5
 have N2_4:=D.n1 0 (lt_of B2) ((D.a 5 rfl).1.symm.trans E2_5)
 replace B2:=D.k B2
 have L4:Amb S W b4:=.inr A4
 clear D
 refine wp_seq_k fun _ K5=>?_
 refine gs 2 (Amb S W) fun _ K6=>?_
 refine .fz rfl 1 0 E1_0 ?_
 refine .lc rfl 0 B2 ?_ (V:=.bool (decide (x < 0)))
 refine .dk (fun u=>wV x::u1 0::u1 1::u2 5::sq u2 0 5 (u 0::u 1::us 4)) K6 bel fun u3 w3 D bel=>?_
 have E3_1:=D.q 1
 replace F4:=D.o L4 F4
 clear D
 rcases Bool.eq_false_or_eq_true (decide (x < 0)) with c7 | c7
 ·
  refine wp_cond_true ((E3_1).trans (congrArg Value.bool c7)) ?_
  have dc7:=of_decide_eq_true c7
  refine go2_seqT 2 1 rfl (Amb S W) [] [] (Olds.nil _) (by kernel_rfl) ?_
  refine .mz rfl 3 E2_5 ?_
  refine .mz rfl 3 E2_5 ?_
  refine .dT (fun u=>wV x::u1 0::u1 1::u2 5::sq u2 0 5 (u3 0::u3 1::sq u 0 3 (U::[]))) bel.size _ rfl fun u4 w4 D=>?_
  have E4_0:=D.q 0
  have E4_1:=D.q 1
  replace F4:=D.o L4 F4
  replace bel:=D.d.base.bel0 bel bel.size
  clear D
  refine wpT_callO (args:=#[pt b4,pt b4]) rfl (ex_call rfl rfl Tryz.func254 (by kernel_rfl) (by kernel_rfl) (by simp only [List.map_toArray,List.map_cons,List.map_nil]; show #[(u4 0).v,(u4 1).v] = #[pt b4,pt b4]; rw [E4_0,E4_1])) (bNeg (z:=b4) (x:=(x.natAbs:Int)) (IntO.blk F4) (IntO.p (VP.any _ F4)) (by omega)) fun w8 fw8 ow8=>?_
  have sw8:Soft w4 b4 ∨ Local w4 b4:=.inl (IntO.soft F4)
  have F4:=fw8
  have L4:Amb S W b4:=.inr A4
  replace bel:=bel.trans (only_below' ow8 A4 bel.size)
  refine wpList_nil ?_
  show _
  refine K5 _ _ ?_
  refine gs 2 (Amb S W) fun _ K9=>?_
  refine .mz rfl 3 E2_5 ?_
  refine .mv rfl 0 ?_
  refine .dk (fun u=>wV x::u1 0::u 1::u2 5::sq u2 0 5 (u3 0::u3 1::u4 0::u4 1::.pointer (some ⟨b4,0,none⟩)::u 0::[])) K9 bel fun u5 w5 D bel=>?_
  have E5_1:=D.q 1
  replace F4:=D.o L4 F4
  clear D
  refine wp_ret ?_
  refine ret_ok rfl (by exact results_tmp' rfl (by exact E5_1)) ⟨_,rfl,?_,bel⟩
  exact into_eq (num_n dc7) (VP.at F4 L4)
 ·
  refine wp_cond_false ((E3_1).trans (congrArg Value.bool c7)) ?_
  have dc7:=of_decide_eq_false c7
  refine wp_skip ?_
  refine K5 _ _ ?_
  refine gs 2 (Amb S W) fun _ K10=>?_
  refine .mz rfl 3 E2_5 ?_
  refine .mv rfl 0 ?_
  refine .dk (fun u=>wV x::u1 0::u 1::u2 5::sq u2 0 5 (u3 0::u3 1::U::U::U::u 0::[])) K10 bel fun u6 w6 D bel=>?_
  have E6_1:=D.q 1
  replace F4:=D.o L4 F4
  clear D
  refine wp_ret ?_
  refine ret_ok rfl (by exact results_tmp' rfl (by exact E6_1)) ⟨_,rfl,?_,bel⟩
  exact into_eq (num_p dc7) (VP.at F4 L4)
theorem eDiv {v0:Value} {v1:Value} (x:Cx) (y:Cx) (t0:(NumP x).p S v0 W) (t1:(NumP y).p S v1 W) (p0:ht x.re + ht x.im + ht y.re + ht y.im ≤ 1073741824) (p1:y.norm ≠ 0) :
  Calls Tryz.prog 242 #[v0,v1] W (Ret (NumP (x.div y)) S W):=by
 obtain ⟨x1,x2,rfl,F_x1,F_x2⟩:=t0
 replace F_x1:(RatN x.re).p (Amb S W) x1 W:=(RatN x.re).mono (fun _ _ h=>.inl h) F_x1
 replace F_x2:(RatN x.im).p (Amb S W) x2 W:=(RatN x.im).mono (fun _ _ h=>.inl h) F_x2
 obtain ⟨x3,x4,rfl,F_x3,F_x4⟩:=t1
 replace F_x3:(RatN y.re).p (Amb S W) x3 W:=(RatN y.re).mono (fun _ _ h=>.inl h) F_x3
 replace F_x4:(RatN y.im).p (Amb S W) x4 W:=(RatN y.im).mono (fun _ _ h=>.inl h) F_x4
 have h1:=hc_conj y
 have h2:=hc_mul x y.conj
 have h3:=hc_norm y
 have h4:=ht_inv y.norm
 have bel:=b0 W
 go_enter Tryz.func242,Tryz.ntmps242
 refine gs 3 (Amb S W) fun _ K5=>?_
 refine .bx rfl (fun H=>H.v 0 (.agg #[x1,x2])) ?_
 refine .bx rfl (fun H=>H.v 1 (.agg #[x3,x4])) ?_
 refine .al rfl (#[.pointer none,.pointer none]) ?_
 refine .dk (fun u=>.agg #[x1,x2]::.agg #[x3,x4]::sq u 0 3 (us 9)) K5 bel fun u1 w1 D bel=>?_
 obtain ⟨b6,E1_0,A6,B6⟩:=D.nw 0
 obtain ⟨b7,E1_1,A7,B7⟩:=D.nw 1
 obtain ⟨b8,E1_2,A8,B8⟩:=D.nw 2
 have N6_8:=D.n2 0 2 E1_0 E1_2
 have N7_8:=D.n2 1 2 E1_1 E1_2
 replace F_x1:=D.gr (RatN x.re) F_x1
 replace F_x2:=D.gr (RatN x.im) F_x2
 replace F_x3:=D.gr (RatN y.re) F_x3
 replace F_x4:=D.gr (RatN y.im) F_x4
 clear D
 refine gd1 10 (Amb S W) 9 B8 fun _ K9=>?_
 refine .e rfl (fun H=>x_ldr (H.z 2 E1_0) (H.b1 B6 (Ne.symm N6_8))) ?_
 refine .e rfl (fun H=>x_ldr (H.z 3 E1_1) (H.b1 B7 (Ne.symm N7_8))) ?_
 refine .cR rfl [] Tryz.func136 (fun H=>⟨_,ar1 (H.g 6 1),eConj _ (NumP.mk (H.was _ [] F_x3) (H.was _ [] F_x4)) (by first | omega | exact p1)⟩) ?_
 refine .cR rfl [2] Tryz.func137 (fun H=>⟨_,ar2 (H.g 5 0) (H.r 7 2),eNMul _ _ (NumP.mk (H.was _ [2] F_x1) (H.was _ [2] F_x2)) (SV.sub [2] (H.a 2 rfl) rfl) (by first | omega | exact p1)⟩) ?_
 refine .al rfl zQ ?_
 refine .e rfl (fun H=>x_ldr (H.z 3 E1_1) (H.b1 B7 (Ne.symm N7_8))) ?_
 refine .cR rfl [] Tryz.func201 (fun H=>⟨_,ar1 (H.g 10 5),eNorm _ (NumP.mk (H.was _ [] F_x3) (H.was _ [] F_x4)) (by first | omega | exact p1)⟩) ?_
 refine .cO rfl 4 Tryz.func199 (fun H h0 hz=>⟨_,ar2 (H.p 9 4 h0) (H.r 11 6),qInv _ (RatBlk.of hz) (SV.any (H.a 6 rfl)) (by first | omega | exact p1) (by first | omega | exact p1)⟩) ?_
 refine .cR rfl [2,3,4,7] Tryz.func200 (fun H=>⟨_,ar2 (H.r 8 3) (H.r 12 7),eScale _ _ (SV.sub [2,3,4,7] (H.a 3 rfl) rfl) (RatP.n (Own.use (H.a 7 rfl) (H.a 4 rfl) [2,3,4,7] rfl)) (by first | omega | exact p1)⟩) ?_
 refine Go2.storeOld (i:=9) 0 b8 rfl rfl rfl ⟨_,_,_,B8,rfl⟩ (SP.old 0 b8 [8] (fun u=>#[((u 8).v.cells.getD 0 undef),((u 8).v.cells.getD 1 undef)]) 178 (by intro u u' h; simp [h 8 (by simp)]) (lt_of B8) (by intro y k hy; match y,hy with | 0,hy=>rfl)) (fun u μ ρ H=>?_) ?_
 · have e4:=H.z 4 E1_2; have e13:=H.r 13 8; have hb:=H.blkOld B8 0 9 rfl (.inl rfl)
   obtain ⟨x1,x2,h1,h2,h3⟩:=(H.a 8 rfl)
   have o1:=VP1.ratn h2
   have o2:=VP1.ratn h3
   rw [h1] at e13
   refine ⟨μ.setRow b8 #[x1,x2],ex_store_row 178 _ _ rfl e4 e13 hb (by kernel_rfl) rfl (by simp [o1,o2]),fun g=>?_,setRow_only _ _ _⟩
   show (World.setRow _ _ _).heap[b8]? = _
   rw [setRow_at hb]; try simp [upd,h1,Value.cells]
 refine .d1 (fun u=>.agg #[x1,x2]::.agg #[x3,x4]::sq u1 0 3 (sq u 0 9 [])) K9 bel A8 fun u2 w2 D bel=>?_
 obtain ⟨x10,x11,E2_8,F_x10,F_x11⟩:=(D.rr 8)
 replace B8:w2.heap[b8]? = _:=(D.a 9 rfl)
 simp only [Value.cells,E2_8] at B8
 clear D
 refine wp_ret ?_
 refine ret_ok rfl (by exact results_row rfl (by exact E1_2) B8 Tryz.underlying178 rfl (by kernel_rfl)) ⟨_,rfl,?_,bel⟩
 exact num_eq (cx_over x y) (NumP.mk F_x10 F_x11)
theorem eTold {v0:Value} (x:Cx) (t0:(NumP x).p S v0 W) (p0:ht x.re + ht x.im ≤ 68719476736) :
  Calls Tryz.prog 229 #[v0] W (RetV (.tuple #[.agg #[.bool (gcut x).re.a.n,.string (gcut x).re.a.s,.bool (gcut x).re.b.n,.string (gcut x).re.b.s,.bool (gcut x).im.a.n,.string (gcut x).im.a.s,.bool (gcut x).im.b.n,.string (gcut x).im.b.s],.int .i64 (gerr x)]) W):=by
 obtain ⟨x1,x2,rfl,F_x1,F_x2⟩:=t0
 replace F_x1:(RatN x.re).p (Amb S W) x1 W:=(RatN x.re).mono (fun _ _ h=>.inl h) F_x1
 replace F_x2:(RatN x.im).p (Amb S W) x2 W:=(RatN x.im).mono (fun _ _ h=>.inl h) F_x2
 have bel:=b0 W
 go_enter Tryz.func229,Tryz.ntmps229
 refine gs 3 (Amb S W) fun _ K3=>?_
 refine .bx rfl (fun H=>H.v 0 (.agg #[x1,x2])) ?_
 refine .al rfl zG ?_
 refine .mc rfl ?_
 refine .dk (fun u=>.agg #[x1,x2]::sq u 0 3 (us 26)) K3 bel fun u1 w1 D bel=>?_
 obtain ⟨b4,E1_0,A4,B4⟩:=D.nw 0
 obtain ⟨b5,E1_1,A5,B5⟩:=D.nw 1
 have E1_2:=D.q 2
 have N4_5:=D.n2 0 1 E1_0 E1_1
 replace F_x1:=D.gr (RatN x.re) F_x1
 replace F_x2:=D.gr (RatN x.im) F_x2
 clear D
 refine gs 9 (Amb S W) fun _ K6=>?_
 refine .fz rfl 1 0 E1_0 ?_
 refine .lc rfl 0 B4 ?_ (V:=x1)
 refine .cK rfl Tryz.func213 (fun H=>⟨_,ar1 (H.g 10 1),eFrac _ (VP.any _ (H.was _ [] F_x1)) (by omega)⟩) ?_
 refine .mv rfl 2 ?_
 refine .e rfl (V:=rfV (fcut x.re)) (fun H=>x_ex (H.g 8 3)) ?_
 refine .e rfl (V:=.int .i64 (ferr x.re)) (fun H=>x_ex (H.g 8 3)) ?_
 refine .al rfl zF ?_
 refine .so rfl 6 (fun H=>⟨H.r 4 6,H.g 12 4⟩) ?_
 refine .mv rfl 5 ?_
 refine .dk (fun u=>.agg #[x1,x2]::sq u1 0 3 (u 6::u 8::U::U::u 3::sq u 0 3 (u 4::u 5::us 16))) K6 bel fun u2 w2 D bel=>?_
 obtain ⟨b7,E2_6,A7,B7⟩:=D.st 7
 have E2_8:=D.q 8
 have N5_7:=D.n1 6 (lt_of B5) E2_6
 replace B4:=D.k B4
 replace B5:=D.k B5
 replace F_x1:=D.gr (RatN x.re) F_x1
 replace F_x2:=D.gr (RatN x.im) F_x2
 clear D
 refine gs 9 (Amb S W) fun _ K8=>?_
 refine .fz rfl 1 1 E1_0 ?_
 refine .lc rfl 0 B4 ?_ (V:=x2)
 refine .cK rfl Tryz.func213 (fun H=>⟨_,ar1 (H.g 16 1),eFrac _ (VP.any _ (H.was _ [] F_x2)) (by omega)⟩) ?_
 refine .mv rfl 2 ?_
 refine .e rfl (V:=rfV (fcut x.im)) (fun H=>x_ex (H.g 14 3)) ?_
 refine .e rfl (V:=.int .i64 (ferr x.im)) (fun H=>x_ex (H.g 14 3)) ?_
 refine .al rfl zF ?_
 refine .so rfl 6 (fun H=>⟨H.r 6 6,H.g 18 4⟩) ?_
 refine .mv rfl 5 ?_
 refine .dk (fun u=>.agg #[x1,x2]::sq u1 0 3 (u2 6::u2 8::u 6::u 8::u2 3::sq u2 0 3 (u2 4::u2 5::u 3::sq u 0 3 (u 4::u 5::us 10)))) K8 bel fun u3 w3 D bel=>?_
 obtain ⟨b9,E3_6,A9,B9⟩:=D.st 7
 have E3_8:=D.q 8
 have N5_9:=D.n1 6 (lt_of B5) E3_6
 replace B5:=D.k B5
 replace B7:=D.k B7
 clear D
 refine wp_seq_k fun _ K10=>?_
 rcases Bool.eq_false_or_eq_true ((ferr x.re) != 0) with c12 | c12
 ·
  refine gs 6 (Amb S W) fun _ K11=>?_
  refine .mz rfl 5 E2_8 ?_
  refine .e rfl (V:=.bool true) (fun H=>x_cm (H.g 20 0) (H.c _) c12) ?_
  refine .mv rfl 1 ?_
  refine .sk rfl 2 ?_
  refine .sk rfl 2 ?_
  refine .e rfl (fun H=>x_pkT (H.g 22 2) (H.c _)) ?_
  refine .dk (fun u=>.agg #[x1,x2]::sq u1 0 3 (u2 6::u2 8::u3 6::u3 8::u2 3::sq u2 0 3 (u2 4::u2 5::u3 3::sq u3 0 3 (u3 4::u3 5::sq u 0 6 (us 4))))) K11 bel fun u4 w4 D bel=>?_
  have E4_5:=D.q 5
  replace B5:=D.k B5
  replace B7:=D.k B7
  replace B9:=D.k B9
  clear D
  refine wp_cond_true (by exact E4_5) ?_
  refine gs1 3 (Amb S W) 1 B5 fun _ K13=>?_
  refine .e rfl (V:=.agg zG) (fun H=>by clear H; go_simp) ?_
  refine .s1 rfl B5 (fun H=>⟨H.z 2 E1_1,H.g 26 0⟩) ?_
  refine .mc rfl ?_
  refine .d1 (fun u=>.agg #[x1,x2]::u1 0::u1 1::u 2::u2 6::u2 8::u3 6::u3 8::u2 3::sq u2 0 3 (u2 4::u2 5::u3 3::sq u3 0 3 (u3 4::u3 5::sq u4 0 6 (u 0::us 3)))) K13 bel A5 fun u5 w5 D bel=>?_
  have E5_2:=D.q 2
  replace B5:=D.ol 1
  clear D
  refine wp_ret ?_
  refine ret_ok rfl (by exact results_mix rfl (by exact E1_1) B5 Tryz.underlying27 rfl (by kernel_rfl) (by exact E5_2)) (RetV.mk ?_ bel)
  exact congrArg Ending.returned (gcut_no (.inl c12))
 ·
  refine gs 6 (Amb S W) fun _ K11=>?_
  refine .mz rfl 5 E2_8 ?_
  refine .e rfl (V:=.bool false) (fun H=>x_cm (H.g 20 0) (H.c _) c12) ?_
  refine .mv rfl 1 ?_
  refine .mz rfl 7 E3_8 ?_ (hg:=gq 2 rfl)
  refine .e rfl (V:=.bool ((ferr x.im) != 0)) (fun H=>x_cmp (H.g 23 3) (H.c _)) ?_ (hg:=gq 2 rfl)
  refine .e rfl (fun H=>x_pkF (H.g 22 2) (H.g 24 4)) ?_
  refine .dk (fun u=>.agg #[x1,x2]::sq u1 0 3 (u2 6::u2 8::u3 6::u3 8::u2 3::sq u2 0 3 (u2 4::u2 5::u3 3::sq u3 0 3 (u3 4::u3 5::sq u 0 6 (us 4))))) K11 bel fun u4 w4 D bel=>?_
  have E4_5:=D.q 5
  replace B5:=D.k B5
  replace B7:=D.k B7
  replace B9:=D.k B9
  clear D
  rcases Bool.eq_false_or_eq_true ((ferr x.im) != 0) with c14 | c14
  ·
   refine wp_cond_true ((E4_5).trans (congrArg Value.bool c14)) ?_
   refine gs1 3 (Amb S W) 1 B5 fun _ K15=>?_
   refine .e rfl (V:=.agg zG) (fun H=>by clear H; go_simp) ?_
   refine .s1 rfl B5 (fun H=>⟨H.z 2 E1_1,H.g 26 0⟩) ?_
   refine .mc rfl ?_
   refine .d1 (fun u=>.agg #[x1,x2]::u1 0::u1 1::u 2::u2 6::u2 8::u3 6::u3 8::u2 3::sq u2 0 3 (u2 4::u2 5::u3 3::sq u3 0 3 (u3 4::u3 5::sq u4 0 6 (u 0::us 3)))) K15 bel A5 fun u5 w5 D bel=>?_
   have E5_2:=D.q 2
   replace B5:=D.ol 1
   clear D
   refine wp_ret ?_
   refine ret_ok rfl (by exact results_mix rfl (by exact E1_1) B5 Tryz.underlying27 rfl (by kernel_rfl) (by exact E5_2)) (RetV.mk ?_ bel)
   exact congrArg Ending.returned (gcut_no (.inr c14))
  ·
   refine wp_cond_false ((E4_5).trans (congrArg Value.bool c14)) ?_
   refine wp_skip ?_
   refine K10 _ _ ?_
   refine gs1 5 (Amb S W) 3 B5 fun _ K16=>?_
   refine .e rfl (fun H=>x_ldr (H.z 4 E2_6) (H.b1 B7 N5_7)) ?_
   refine .e rfl (fun H=>x_ldr (H.z 6 E3_6) (H.b1 B9 N5_9)) ?_
   refine .e rfl (V:=.agg #[.bool (fcut x.re).a.n,.string (fcut x.re).a.s,.bool (fcut x.re).b.n,.string (fcut x.re).b.s,.bool (fcut x.im).a.n,.string (fcut x.im).a.s,.bool (fcut x.im).b.n,.string (fcut x.im).b.s]) (fun H=>by have e27:=H.g 27 0; have e28:=H.g 28 1; clear H; go_simp) ?_
   refine .s1 rfl B5 (fun H=>⟨H.z 2 E1_1,H.g 29 2⟩) ?_
   refine .mc rfl ?_
   refine .d1 (fun u=>.agg #[x1,x2]::u1 0::u1 1::u 4::u2 6::u2 8::u3 6::u3 8::u2 3::sq u2 0 3 (u2 4::u2 5::u3 3::sq u3 0 3 (u3 4::u3 5::sq u4 0 6 (U::sq u 0 3 [])))) K16 bel A5 fun u6 w6 D bel=>?_
   have E6_4:=D.q 4
   replace B5:=D.ol 3
   clear D
   refine wp_ret ?_
   refine ret_ok rfl (by exact results_mix rfl (by exact E1_1) B5 Tryz.underlying27 rfl (by kernel_rfl) (by exact E6_4)) (RetV.mk ?_ bel)
   exact congrArg Ending.returned (gcut_yes c12 c14)
theorem eRatOk (x:Rat) (p0:fits (rf x) = true) :
  Calls Tryz.prog 198 #[fV x] W (Ret (RatP x) S W):=by
 have n0:=hi_num x
 have n2:=hi_den x
 have f0:=efits_le p0
 have f1:ht (Rat.divInt x.num (x.den:Int)) ≤ 8200:=by rw [fr_self]; exact f0
 have f2:=hi_num (Rat.divInt x.num (x.den:Int))
 have f3:=hi_den (Rat.divInt x.num (x.den:Int))
 have bel:=b0 W
 go_enter Tryz.func198,Tryz.ntmps198
 refine gs 2 (Amb S W) fun _ K1=>?_
 refine .bx rfl (fun H=>H.v 0 (fV x)) ?_
 refine .mc rfl ?_
 refine .dk (fun u=>fV x::u 0::u 1::us 61) K1 bel fun u1 w1 D bel=>?_
 obtain ⟨b2,E1_0,A2,B2⟩:=D.nw 0
 have E1_1:=D.q 1
 clear D
 refine wp_seq_k fun _ K3=>?_
 refine gs 35 (Amb S W) fun _ K4=>?_
 refine .fz rfl 1 0 E1_0 ?_
 refine .lp rfl 0 (wC x.num) B2 ?_
 refine .cK rfl (V:=.bool true) Tryz.func256 (fun H=>⟨_,ar1 (H.g 7 1),reV (congrArg Value.bool (wformed_rw _)) (eFormed (rw x.num))⟩) ?_
 refine .e rfl (V:=.bool false) (fun H=>x_not (H.g 8 2)) ?_
 refine .mv rfl 3 ?_
 refine .fz rfl 1 2 E1_0 ?_ (hg:=gq 4 rfl)
 refine .lp rfl 5 (wC (x.den:Int)) B2 ?_ (hg:=gq 4 rfl)
 refine .cK rfl (V:=.bool true) Tryz.func256 (fun H=>⟨_,ar1 (H.g 12 6),reV (congrArg Value.bool (wformed_rw _)) (eFormed (rw (x.den:Int)))⟩) ?_ (hg:=gq 4 rfl)
 refine .e rfl (V:=.bool false) (fun H=>x_not (H.g 13 7)) ?_ (hg:=gq 4 rfl)
 refine .e rfl (fun H=>x_pkF (H.g 10 4) (H.g 14 8)) ?_
 refine .mv rfl 9 ?_
 refine .fz rfl 1 2 E1_0 ?_ (hg:=gq 10 rfl)
 refine .fj rfl 11 2 ?_ (hg:=gq 10 rfl)
 refine .e rfl (V:=.bool false) (fun H=>by have e18:=H.g 18 12; have c1:=cell_of (off:=2) (H.b B2) rfl; have k_:=(den_nn x); clear H; go_simp <;> first | (simp_all; done) | omega | exact len_gt z0_) ?_ (hg:=gq 10 rfl)
 refine .e rfl (fun H=>x_pkF (H.g 16 10) (H.g 19 13)) ?_
 refine .mv rfl 14 ?_
 refine .fz rfl 1 2 E1_0 ?_ (hg:=gq 15 rfl)
 refine .fj rfl 16 3 ?_ (hg:=gq 15 rfl)
 refine .lc rfl 17 B2 ?_ (V:=.string (bS (x.den:Int).natAbs)) (hg:=gq 15 rfl)
 refine .e rfl (V:=.bool false) (fun H=>by have e24:=H.g 24 18; have k1:=H.c (.string (ByteArray.mk #[])); have s_:=bS_empty ((x.den:Int).natAbs); have k_:=(den_na x); clear H; go_simp <;> first | (simp_all; done) | omega | exact len_gt z0_) ?_ (hg:=gq 15 rfl)
 refine .e rfl (fun H=>x_pkF (H.g 21 15) (H.g 25 19)) ?_
 refine .mv rfl 20 ?_
 refine .fz rfl 1 0 E1_0 ?_ (hg:=gq 21 rfl)
 refine .fj rfl 22 1 ?_ (hg:=gq 21 rfl)
 refine .lc rfl 23 B2 ?_ (V:=.string (bS x.num.natAbs)) (hg:=gq 21 rfl)
 refine .e rfl (V:=.int .i64 (((bS x.num.natAbs).size:Nat):Int)) (fun H=>by have e30:=H.g 30 24; clear H; go_simp) ?_ (hg:=gq 21 rfl)
 refine .e rfl (V:=.bool false) (fun H=>x_cm (H.g 31 25) (H.c _) (fits_num p0)) ?_ (hg:=gq 21 rfl)
 refine .e rfl (fun H=>x_pkF (H.g 27 21) (H.g 32 26)) ?_
 refine .mv rfl 27 ?_
 refine .fz rfl 1 2 E1_0 ?_ (hg:=gq 28 rfl)
 refine .fj rfl 29 3 ?_ (hg:=gq 28 rfl)
 refine .lc rfl 30 B2 ?_ (V:=.string (bS (x.den:Int).natAbs)) (hg:=gq 28 rfl)
 refine .e rfl (V:=.int .i64 (((bS (x.den:Int).natAbs).size:Nat):Int)) (fun H=>by have e37:=H.g 37 31; clear H; go_simp) ?_ (hg:=gq 28 rfl)
 refine .e rfl (V:=.bool false) (fun H=>x_cm (H.g 38 32) (H.c _) (fits_den p0)) ?_ (hg:=gq 28 rfl)
 refine .e rfl (fun H=>x_pkF (H.g 34 28) (H.g 39 33)) ?_
 refine .dk (fun u=>fV x::u1 0::u1 1::U::U::U::sq u 0 35 (us 23)) K4 bel fun u2 w2 D bel=>?_
 have E2_34:=D.q 34
 replace B2:=D.k B2
 clear D
 refine wp_cond_false (by exact E2_34) ?_
 refine wp_skip ?_
 refine K3 _ _ ?_
 refine gd 8 (Amb S W) fun _ K5=>?_
 refine .fz rfl 1 0 E1_0 ?_
 refine .lp rfl 0 (wC x.num) B2 ?_
 refine .cR rfl [] Tryz.func257 (fun H=>⟨_,ar1 (H.g 42 1),eWhole _ (by first | omega | exact den_ne x)⟩) ?_
 refine .fz rfl 1 2 E1_0 ?_
 refine .lp rfl 3 (wC (x.den:Int)) B2 ?_
 refine .cR rfl [] Tryz.func257 (fun H=>⟨_,ar1 (H.g 45 4),eWhole _ (by first | omega | exact den_ne x)⟩) ?_
 refine .mn rfl 2 [2] ?_
 refine .mn rfl 5 [5] ?_
 refine .dk (fun u=>fV x::u1 0::u1 1::u 6::u 7::U::sq u2 0 35 (sq u 0 6 (us 17))) K5 bel fun u3 w3 D bel=>?_
 obtain ⟨b6,E3_6,L6,F6⟩:=IntO.elim (D.rr 6)
 obtain ⟨b7,E3_7,L7,F7⟩:=IntO.elim (D.rr 7)
 clear D
 refine gs 5 (Amb S W) fun _ K8=>?_
 refine .al rfl zQ ?_
 refine .mz rfl 3 E3_6 ?_
 refine .mz rfl 4 E3_7 ?_
 refine .cO rfl 0 Tryz.func234 (fun H h0 hz=>⟨_,ar3 (H.p 47 0 h0) (H.g 48 1) (H.g 49 2),qSetFrac _ _ (RatBlk.of hz) (IntO.p (VP.any _ (H.was _ [] (VP.at F6 L6)))) (IntO.p (VP.any _ (H.was _ [] (VP.at F7 L7)))) (by first | omega | exact den_ne x) (by first | omega | exact den_ne x)⟩) ?_
 refine .mo rfl 3 ?_
 refine .dk (fun u=>fV x::u1 0::u1 1::u3 6::u3 7::u 4::sq u2 0 35 (sq u3 0 6 (sq u 0 4 (us 13)))) K8 bel fun u4 w4 D bel=>?_
 obtain ⟨b9,E4_4,A9,F9⟩:=D.ow 4
 replace F6:=D.o L6 F6
 replace F7:=D.o L7 F7
 have L9:Amb S W b9:=.inr A9
 clear D
 refine wp_seq_k fun _ K10=>?_
 refine gs 12 (Amb S W) fun _ K11=>?_
 refine .mz rfl 5 E4_4 ?_
 refine .cR rfl [] Tryz.func258 (fun H=>⟨_,ar1 (H.g 51 0),qNum _ (H.was _ [] (VP.at F9 L9)) (by first | omega | exact den_ne x)⟩) ?_
 refine .mz rfl 3 E3_6 ?_
 refine .cK rfl Tryz.func251 (fun H=>⟨_,ar2 (H.r 52 1) (H.g 53 2),bCmp _ _ (IntO.p (SV.any (H.a 1 rfl))) (IntO.p (VP.any _ (H.was _ [] (VP.at F6 L6)))) (by first | omega | exact den_ne x)⟩) ?_
 refine .e rfl (V:=.bool false) (fun H=>x_cm (H.g 54 3) (H.c _) (back_num x)) ?_
 refine .mv rfl 4 ?_
 refine .mz rfl 5 E4_4 ?_ (hg:=gq 5 rfl)
 refine .cR rfl [] Tryz.func259 (fun H=>⟨_,ar1 (H.g 57 6),qDenom _ (H.was _ [] (VP.at F9 L9)) (by first | omega | exact den_ne x)⟩) ?_ (hg:=gq 5 rfl)
 refine .mz rfl 4 E3_7 ?_ (hg:=gq 5 rfl)
 refine .cK rfl Tryz.func251 (fun H=>⟨_,ar2 (H.r 58 7) (H.g 59 8),bCmp _ _ (IntO.p (SV.any (H.a 7 rfl))) (IntO.p (VP.any _ (H.was _ [] (VP.at F7 L7)))) (by first | omega | exact den_ne x)⟩) ?_ (hg:=gq 5 rfl)
 refine .e rfl (V:=.bool false) (fun H=>x_cm (H.g 60 9) (H.c _) (back_den x)) ?_ (hg:=gq 5 rfl)
 refine .e rfl (fun H=>x_pkF (H.g 56 5) (H.g 61 10)) ?_
 refine .dk (fun u=>fV x::u1 0::u1 1::u3 6::u3 7::u4 4::sq u2 0 35 (sq u3 0 6 (sq u4 0 4 (sq u 0 12 (U::[]))))) K11 bel fun u5 w5 D bel=>?_
 have E5_11:=D.q 11
 replace F9:=D.o L9 F9
 clear D
 refine wp_cond_false (by exact E5_11) ?_
 refine wp_skip ?_
 refine K10 _ _ ?_
 refine gs 2 (Amb S W) fun _ K12=>?_
 refine .mz rfl 5 E4_4 ?_
 refine .mv rfl 0 ?_
 refine .dk (fun u=>fV x::u1 0::u 1::u3 6::u3 7::u4 4::sq u2 0 35 (sq u3 0 6 (sq u4 0 4 (sq u5 0 12 (u 0::[]))))) K12 bel fun u6 w6 D bel=>?_
 have E6_1:=D.q 1
 replace F9:=D.o L9 F9
 clear D
 refine wp_ret ?_
 refine ret_ok rfl (by exact results_tmp' rfl (by exact E6_1)) ⟨_,rfl,?_,bel⟩
 exact rat_eq (fr_self x) (VP.at F9 L9)
theorem eOf (x:Cx) (p0:gfits (rg x) = true) :
  Calls Tryz.prog 197 #[gV x] W (Ret (VP.tup (NumP x) (VP.is (.bool true))) S W):=by
 have bel:=b0 W
 go_enter Tryz.func197,Tryz.ntmps197
 refine gs 3 (Amb S W) fun _ K1=>?_
 refine .bx rfl (fun H=>H.v 0 (gV x)) ?_
 refine .al rfl (#[.pointer none,.pointer none]) ?_
 refine .mc rfl ?_
 refine .dk (fun u=>gV x::sq u 0 3 (us 17)) K1 bel fun u1 w1 D bel=>?_
 obtain ⟨b2,E1_0,A2,B2⟩:=D.nw 0
 obtain ⟨b3,E1_1,A3,B3⟩:=D.nw 1
 have E1_2:=D.q 2
 have N2_3:=D.n2 0 1 E1_0 E1_1
 clear D
 refine gd 8 (Amb S W) fun _ K4=>?_
 refine .fz rfl 1 0 E1_0 ?_
 refine .lp rfl 0 (fC x.re) B2 ?_
 refine .cR rfl [] Tryz.func198 (fun H=>⟨_,ar1 (H.g 7 1),eRatOk _ (by first | exact (and_tt p0).1 | exact (and_tt p0).2)⟩) ?_
 refine .fz rfl 1 4 E1_0 ?_
 refine .lp rfl 3 (fC x.im) B2 ?_
 refine .cR rfl [] Tryz.func198 (fun H=>⟨_,ar1 (H.g 10 4),eRatOk _ (by first | exact (and_tt p0).1 | exact (and_tt p0).2)⟩) ?_
 refine .mn rfl 2 [2] ?_
 refine .mn rfl 5 [5] ?_
 refine .dk (fun u=>gV x::sq u1 0 3 (u 6::u 7::sq u 0 6 (us 9))) K4 bel fun u2 w2 D bel=>?_
 obtain ⟨b5,E2_6,L5,F5⟩:=RatP.elim (D.rr 6)
 obtain ⟨b6,E2_7,L6,F6⟩:=RatP.elim (D.rr 7)
 replace B3:=D.k B3
 clear D
 refine gs1 11 (Amb S W) 9 B3 fun _ K7=>?_
 refine .mz rfl 4 E2_6 ?_
 refine .mz rfl 5 E2_7 ?_
 refine .e rfl (V:=.agg #[pt b5,pt b6]) (fun H=>by have e12:=H.g 12 0; have e13:=H.g 13 1; clear H; go_simp) ?_
 refine .mz rfl 4 E2_6 ?_
 refine .e rfl (V:=.bool true) (fun H=>x_pnN (H.g 15 3) (H.c _)) ?_
 refine .mv rfl 4 ?_
 refine .mz rfl 5 E2_7 ?_ (hg:=gq 5 rfl)
 refine .e rfl (V:=.bool true) (fun H=>x_pnN (H.g 18 6) (H.c _)) ?_ (hg:=gq 5 rfl)
 refine .e rfl (fun H=>x_pkT (H.g 17 5) (H.g 19 7)) ?_
 refine .s1 rfl B3 (fun H=>⟨H.z 2 E1_1,H.g 14 2⟩) ?_
 refine .mv rfl 8 ?_
 refine .d1 (fun u=>gV x::u1 0::u1 1::u 10::u2 6::u2 7::sq u2 0 6 (sq u 0 9 [])) K7 bel A3 fun u3 w3 D bel=>?_
 have E3_10:=D.q 10
 replace B3:=D.ol 9
 replace F5:=D.o L5 F5
 replace F6:=D.o L6 F6
 clear D
 refine wp_ret ?_
 refine ret_ok rfl (by exact results_mix rfl (by exact E1_1) B3 Tryz.underlying178 rfl (by kernel_rfl) (by exact E3_10)) ⟨_,rfl,?_,bel⟩
 exact ⟨_,_,rfl,(NumP.mk (RatP.n (VP.at F5 L5)) (RatP.n (VP.at F6 L6))),rfl⟩
end Go.Proofs.YtcpjdjnaipbieaaGreat
namespace Go.Proofs.YtcpjdjnaipbieaaGreat
open Go.RowKit Rgn
def OneP (n:Nat):VP:=⟨fun _ v _=>v.oneCell' = true,fun _ h=>h,fun _ h=>h⟩
theorem VP1.one {v:Value} (h:v.oneCell' = true):v.oneCell' = true:=h
def PtrP (n:Nat):VP:=⟨fun _ v _=>∃ a,v = .pointer a,fun _ h=>h,fun _ h=>h⟩
theorem PtrP.isPtr {v:Value} (h:∃ a,v = .pointer a):∃ a,v = .pointer a:=h
theorem VP1.ptr {v:Value} (h:∃ a,v = .pointer a):v.oneCell' = true:=by obtain ⟨a,rfl⟩:=h; rfl
theorem RatN.ptr {q:Rat} {n:Nat} {S S' : Nat → Prop} {v:Value} {w w' : World} (h:(RatN q).p S v w):(PtrP n).p S' v w' := by
 rcases h with ⟨rfl,_⟩ | h
 ·exact ⟨_,rfl⟩
 ·obtain ⟨b,rfl⟩:=RatP.isPtr h; exact ⟨_,rfl⟩
def NumJ (n:Nat):VP:=⟨fun S v w=>∃ v0 v1,v = .agg #[v0,v1] ∧ (PtrP 0).p S v0 w ∧ (PtrP 0).p S v1 w,fun _ h=>h,fun _ h=>h⟩
theorem NumJ.mk {n S v0 v1 w} (h0:(PtrP 0).p S v0 w) (h1:(PtrP 0).p S v1 w):(NumJ n).p S (.agg #[v0,v1]) w:=⟨_,_,rfl,h0,h1⟩
def RingJ (n:Nat):VP:=⟨fun S v w=>∃ v0 v1 v2 v3,v = .agg #[v0,v1,v2,v3] ∧ (PtrP 0).p S v0 w ∧ (PtrP 0).p S v1 w ∧ (PtrP 0).p S v2 w ∧ (PtrP 0).p S v3 w,fun _ h=>h,fun _ h=>h⟩
theorem RingJ.mk {n S v0 v1 v2 v3 w} (h0:(PtrP 0).p S v0 w) (h1:(PtrP 0).p S v1 w) (h2:(PtrP 0).p S v2 w) (h3:(PtrP 0).p S v3 w):(RingJ n).p S (.agg #[v0,v1,v2,v3]) w:=⟨_,_,_,_,rfl,h0,h1,h2,h3⟩
def PlaceJ (n:Nat):VP:=⟨fun S v w=>∃ v0 v1 v2,v = .agg #[v0,v1,v2] ∧ (OneP 0).p S v0 w ∧ (PtrP 0).p S v1 w ∧ (PtrP 0).p S v2 w,fun _ h=>h,fun _ h=>h⟩
theorem PlaceJ.mk {n S v0 v1 v2 w} (h0:(OneP 0).p S v0 w) (h1:(PtrP 0).p S v1 w) (h2:(PtrP 0).p S v2 w):(PlaceJ n).p S (.agg #[v0,v1,v2]) w:=⟨_,_,_,rfl,h0,h1,h2⟩
def MatJ (n:Nat):VP:=⟨fun S v w=>∃ v0 v1 v2 v3 v4 v5 v6 v7 v8,v = .agg #[v0,v1,v2,v3,v4,v5,v6,v7,v8] ∧ (PtrP 0).p S v0 w ∧ (PtrP 0).p S v1 w ∧ (PtrP 0).p S v2 w ∧ (PtrP 0).p S v3 w ∧ (PtrP 0).p S v4 w ∧ (PtrP 0).p S v5 w ∧ (PtrP 0).p S v6 w ∧ (PtrP 0).p S v7 w ∧ (OneP 0).p S v8 w,fun _ h=>h,fun _ h=>h⟩
theorem MatJ.mk {n S v0 v1 v2 v3 v4 v5 v6 v7 v8 w} (h0:(PtrP 0).p S v0 w) (h1:(PtrP 0).p S v1 w) (h2:(PtrP 0).p S v2 w) (h3:(PtrP 0).p S v3 w) (h4:(PtrP 0).p S v4 w) (h5:(PtrP 0).p S v5 w) (h6:(PtrP 0).p S v6 w) (h7:(PtrP 0).p S v7 w) (h8:(OneP 0).p S v8 w) :
  (MatJ n).p S (.agg #[v0,v1,v2,v3,v4,v5,v6,v7,v8]) w:=⟨_,_,_,_,_,_,_,_,_,rfl,h0,h1,h2,h3,h4,h5,h6,h7,h8⟩
theorem RingP.j {c:Ci} {n:Nat} {S S' : Nat → Prop} {v:Value} {w w' : World} (h:(RingP c).p S v w):(RingJ n).p S' v w' := by
 obtain ⟨v0,v1,v2,v3,rfl,h0,h1,h2,h3⟩:=h
 exact ⟨_,_,_,_,rfl,RatN.ptr (RatP.n h0),RatN.ptr h1,RatN.ptr h2,RatN.ptr (RatP.n h3)⟩
theorem MatP.j {c:Mb} {n:Nat} {S S' : Nat → Prop} {v:Value} {w w' : World} (h:(MatP c).p S v w):(MatJ n).p S' v w' := by
 obtain ⟨v0,v1,v2,v3,v4,v5,v6,v7,rfl,h0,h1,h2,h3,h4,h5,h6,h7⟩:=h
 exact ⟨_,_,_,_,_,_,_,_,_,rfl,RatN.ptr h0,RatN.ptr h1,RatN.ptr h2,RatN.ptr h3,RatN.ptr h4,RatN.ptr h5,RatN.ptr h6,RatN.ptr h7,rfl⟩
theorem RatP.fresh {w:World} {b:Nat} (h:w.heap[b]? = some (.cells zQ 209 (0,0))):(RatP 0).p (· = b) (pt b) w:=⟨b,rfl,rfl,.inr ⟨rfl,h⟩⟩
theorem RatN.nil {S:Nat → Prop} {w:World} {q:Rat} (h:q = 0):(RatN q).p S (.pointer none) w:=.inl ⟨rfl,h⟩
def AllR:List Rat → List Value → (Nat → Prop) → World → Prop
 | [],[],_,_=>True
 | q :: l,v :: vs,S,w=>(RatP q).p S v w ∧ AllR l vs S w
 | _,_,_,_=>False
theorem AllR.mono {S S' : Nat → Prop} {w:World} (hS:∀ k,k < w.heap.size → S k → S' k):∀ {l:List Rat} {vs:List Value},AllR l vs S w → AllR l vs S' w
 | [],[],_=>trivial
 | q :: l,v :: vs,h=>⟨(RatP q).mono hS h.1,AllR.mono hS h.2⟩
 | [],_ :: _,h=>h.elim
 | _ :: _,[],h=>h.elim
theorem AllR.grow {S:Nat → Prop} {w w' : World} (hg:GrowS S w w'):∀ {l:List Rat} {vs:List Value},AllR l vs S w → AllR l vs S w'
 | [],[],_=>trivial
 | q :: l,v :: vs,h=>⟨(RatP q).grow hg h.1,AllR.grow hg h.2⟩
 | [],_ :: _,h=>h.elim
 | _ :: _,[],h=>h.elim
def RatsP (l:List Rat):VP :=
  ⟨fun S v w=>∃ b vs,v = .slice (some ⟨b,0,none⟩) l.length l.length ∧ w.heap[b]? = some (.cells vs.toArray 176 (0,0)) ∧ AllR l vs S w,
   fun {S S' v w} hS h=>by
    obtain ⟨b,vs,h1,h2,h3⟩:=h
    exact ⟨b,vs,h1,h2,AllR.mono hS h3⟩,
   fun {S v w w'} hg h=>by
    obtain ⟨b,vs,h1,h2,h3⟩:=h
    refine ⟨b,vs,h1,?_,AllR.grow hg h3⟩
    rcases hg.block b (lt_of h2) with hb | ⟨c,T,fr,hb,hT⟩ | ⟨⟨c,T,hb,hT⟩,_⟩
    · rw [hb]; exact h2
    · rw [h2] at hb; cases hb; exact absurd hT (by decide)
    · rw [h2] at hb; cases hb; exact absurd hT (by decide)⟩
theorem RatsP.elim2 {x y:Rat} {S:Nat → Prop} {v:Value} {w:World} (h:(RatsP [x,y]).p S v w):∃ b b1 b2,v = .slice (some ⟨b,0,none⟩) 2 2 ∧ w.heap[b]? = some (.cells #[pt b1,pt b2] 176 (0,0)) ∧ S b1 ∧ S b2 ∧ (RatP x).p (· = b1) (pt b1) w ∧ (RatP y).p (· = b2) (pt b2) w:=by
 obtain ⟨b,vs,rfl,hB,h⟩:=h
 match vs,h with
 | [v1,v2],⟨h1,h2,_⟩ =>
  obtain ⟨b1,rfl,k1,m1⟩:=RatP.elim h1
  obtain ⟨b2,rfl,k2,m2⟩:=RatP.elim h2
  exact ⟨b,b1,b2,rfl,hB,k1,k2,m1,m2⟩
def sliceE (P:Program) (t:TypeId):Option TypeId:=match P.underlying t with | some (.slice e)=>some e | _=>none
theorem sliceE_ex {P:Program} {t e:TypeId} (h:sliceE P t = some e):P.underlying t = some (.slice e):=by
 unfold sliceE at h
 split at h
 ·rename_i h2; cases h; exact h2
 ·cases h
section
variable {P:Program} {ρ:Operand → Value} {o:Oper} {w:World} {x y:Operand}
theorem ex_bs {t e:TypeId} {n sz:Nat} {xs:Array (Nat × Operand)} (vs:List Value) (ho:o.op = .buildSlice t n xs) (hv:(xs.map fun (i,x)=>(i,ρ x)).toList = (vs.zipIdx 0).map fun x=>(x.2,x.1)) (h1:∀ v ∈ vs,v.cells.size = sz) (hl:vs.length = n)
  (hu:sliceE P t = some e) (hi:(P.info? e).map (fun i=>(i.zero.isSome,i.size)) = some (true,sz)) (hp:0 < sz) (hn:0 < n) (hs:n * sz ≤ 16777216) :
  (execOp ρ o).run P w = .ok (.value (.slice (some ⟨w.heap.size,0,none⟩) n n)) (w.alloc (.cells (vs.flatMap fun v=>v.cells.toList).toArray e)):=by
 cases hie:P.info? e with
 | none=>rw [hie] at hi; cases hi
 | some ie =>
  rw [hie] at hi
  simp only [Option.map_some,Option.some.injEq,Prod.mk.injEq] at hi
  obtain ⟨hz,hsz⟩:=hi
  obtain ⟨z,hzz⟩:=Option.isSome_iff_exists.1 hz
  unfold execOp
  have h0:0 < n * sz:=Nat.mul_pos hn hp
  have hf:=Great.fill_whole hp vs ((Array.range (n * ie.size)).map (z.cells[· % z.cells.size]!)) h1 (by rw [hl,hsz]; simp)
  have hr:=run_buildSlice (P:=P) w t e n (xs.map fun (i,x)=>(i,ρ x)) _ ie z (sliceE_ex hu) hie hzz (by rw [hsz]; omega) (by rw [hsz]; omega) (by rw [hv,hsz] at *; exact hf)
  simp only [ho,Sem.run_bind,hr,Result.andThen_ok]
  rfl
theorem x_ixs (sz:Nat) {t:TypeId} {b n c:Nat} {i:Int} {k:Nat} (hx:ρ x = .slice (some ⟨b,0,none⟩) n c) (hy:ρ y = .int .i64 i) (hu:((sliceE P t).bind P.info?).map (·.size) = some sz:=by kernel_rfl) (ho:o.op = .indexAddr t x y:=by rfl) (h0:0 ≤ i:=by decide) (h1:i < n:=by decide) (hk:sz * i.toNat = k:=by rfl) :
  (execOp ρ o).run P w = .ok (.value (.pointer (some ⟨b,k,none⟩))) w:=by
 subst hk
 cases hse:sliceE P t with
 | none=>rw [hse] at hu; cases hu
 | some e =>
 rw [hse] at hu
 cases hie:P.info? e with
 | none=>simp [hie] at hu
 | some q =>
  have hz:q.size = sz:=by simpa [hie] using hu
  unfold execOp
  simp only [ho,hx,hy]
  have hu' := sliceE_ex hse
  have he:P.elem t = e:=by unfold Program.elem; rw [hu']
  have e:=run_indexAt_slice (P:=P) (w:=w) t ⟨b,0,none⟩ n c .i64 i (by rw [he]; exact hu')
  rw [if_pos ⟨h0,h1⟩,he] at e
  simp [e,sizeOf,typeInfo,hie,hz,Result.andThen,Addr.add_lit,Nat.mul_comm]
theorem x_lens {b:Option Addr} {n c:Nat} {t:TypeId} (hx:ρ x = .slice b n c) (ho:o.op = .call { callee:=.builtin .len,args:=#[x],argTypes:=#[t] }:=by rfl) (hu:(sliceE P t).isSome = true:=by kernel_rfl):(execOp ρ o).run P w = .ok (.value (.int .i64 (n:Nat))) w:=by
 obtain ⟨e,hu⟩:=Option.isSome_iff_exists.1 hu
 have hu:=sliceE_ex hu
 simp [execOp,ho,hx,run_underlying hu,resolve,invoke,builtin,Builtin.len_,Builtin.lenOf,go_sem,Result.andThen]
end
theorem cells_one {v:Value} (h:v.oneCell' = true):v.cells = #[v]:=by cases v <;> first | rfl | cases h
section
variable {P:Program} {ops:Array Oper} {a0:Act} {w0:World} {R0:Nat → Prop} {olds:List (Nat × Nat)} {F:List (Pl w0.heap.size R0 olds) → Prop} {k i:Nat} {rp:List (Nat × Pl w0.heap.size R0 olds)} {o:Oper}
theorem Rgn.Go2.gR (ho:ops[i]? = some o) (near:List Nat) {φ:VP} (hg:Gd2 ops a0 w0 rp i o) (hc:near.contains i = false)
  (h:∀ {u w ρ},Here2 ops a0 olds w0 rp i u w ρ → ∃ v w', (execOp ρ o).run P w = .ok (.value v) w' ∧ φ.p (fun k=>Settled R0 w0.heap.size near u k ∨ w.heap.size ≤ k) v w' ∧ RowKit.Below w.heap.size w w')
  (rest:Go2 P ops a0 w0 F k (i + 1) ((i,.op none (.val i near φ)) :: rp)):Go2 P ops a0 w0 F (k + 1) i rp :=
 Go2.grow ho hg (.val i near φ) (fun u w ρ H=>by
  obtain ⟨v,w', h1,h2,h3⟩:=h H
  exact ⟨v,w', h1,SP.ret H.here.base.grow.size hc h2,h3⟩) rest
end
theorem rat_cells {q:Rat} {S:Nat → Prop} {v:Value} {w:World} (h:(RatP q).p S v w):v.cells = #[v]:=cells_one (VP1.rat h)
theorem rat_on {q:Rat} {S:Nat → Prop} {v:Value} {w:World} (h:(RatP q).p S v w) (o:Obj):(RatP q).p (fun k=>S k ∨ w.heap.size ≤ k) v (w.alloc o) :=
 (RatP q).mono (fun _ _ h=>.inl h) ((RatP q).grow (Rgn.Below.growS (RowKit.Below.alloc (RowKit.Below.refl _ _) (Nat.le_refl _) o) (Nat.le_refl _) S) h)
section
variable {ops:Array Oper} {a0:Act} {w0:World} {R0:Nat → Prop} {olds:List (Nat × Nat)} {F:List (Pl w0.heap.size R0 olds) → Prop} {k i:Nat} {rp:List (Nat × Pl w0.heap.size R0 olds)} {o:Oper}
theorem Rgn.Go2.br2 (ho:ops[i]? = some o) (near:List Nat) {x y:Rat} {a b:Operand}
  (h:∀ {u w ρ},Here2 ops a0 olds w0 rp i u w ρ → ∃ v1 v2,ρ a = v1 ∧ ρ b = v2 ∧ (RatP x).p (Settled R0 w0.heap.size near u) v1 w ∧ (RatP y).p (Settled R0 w0.heap.size near u) v2 w)
  (rest:Go2 Tryz.prog ops a0 w0 F k (i + 1) ((i,.op none (.val i near (RatsP [x,y]))) :: rp)) (hop:o.op = .buildSlice 313 2 #[(0,a),(1,b)]:=by rfl) (hc:near.contains i = false:=by rfl) (hg:Gd2 ops a0 w0 rp i o:=by exact G0 rfl):Go2 Tryz.prog ops a0 w0 F (k + 1) i rp :=
 Go2.gR ho near hg hc (fun {u w ρ} H=>by
  obtain ⟨v1,v2,e1,e2,f1,f2⟩:=h H
  have c1:=rat_cells f1
  have c2:=rat_cells f2
  refine ⟨_,_,ex_bs (P:=Tryz.prog) (e:=176) (sz:=1) [v1,v2] hop (by simp [e1,e2]) (by simp [c1,c2]) rfl (by kernel_rfl) (by kernel_rfl) (by decide) (by decide) (by decide),⟨_,[v1,v2],rfl,?_,rat_on f1 _,rat_on f2 _,trivial⟩,RowKit.Below.alloc (RowKit.Below.refl _ _) (Nat.le_refl _) _⟩
  rw [show ([v1,v2].flatMap fun v=>v.cells.toList) = [v1,v2] by simp [c1,c2]]
  exact heap_alloc_new w _) rest
theorem x_lenR {ρ:Operand → Value} {o:Oper} {w:World} {x:Operand} {v:Value} {l:List Rat} {S:Nat → Prop} {t:TypeId} (hx:ρ x = v) (hv:(RatsP l).p S v w) (ho:o.op = .call { callee:=.builtin .len,args:=#[x],argTypes:=#[t] }:=by rfl) (hu:(sliceE Tryz.prog t).isSome = true:=by kernel_rfl):(execOp ρ o).run Tryz.prog w = .ok (.value (.int .i64 (l.length:Nat))) w:=by
 obtain ⟨b,vs,rfl,_,_⟩:=hv
 exact x_lens hx ho hu
end
section
variable {P:Program} {ops:Array Oper} {Q:Exit → Act → World → Prop} {o:Oper} {rest:List Oper} {a:Act} {w:World}
end
theorem NumP.p0 {z:Cx} {S:Nat → Prop} {v:Value} {w:World} (h:(NumP z).p S v w):(RatN z.re).p S (v.cells.getD 0 undef) w:=by obtain ⟨x1,x2,rfl,h2,h3⟩:=h; exact h2
theorem NumP.p1 {z:Cx} {S:Nat → Prop} {v:Value} {w:World} (h:(NumP z).p S v w):(RatN z.im).p S (v.cells.getD 1 undef) w:=by obtain ⟨x1,x2,rfl,h2,h3⟩:=h; exact h3
def RatNw (n:Nat) (q:Rat):VP:=⟨fun S v w=>(RatP q).p (fun k=>S k ∧ n ≤ k) v w,fun hS h=>(RatP q).mono (fun k hk h=>⟨hS k hk h.1,h.2⟩) h,fun {S v w w'} hg h =>
 (RatP q).grow ⟨hg.os,hg.tape,hg.output,hg.size,fun k hk=>(hg.block k hk).imp id (fun h=>h.imp id (fun h=>⟨h.1,fun hS=>h.2 hS.1⟩))⟩ h⟩
theorem RatNw.r {n:Nat} {q:Rat} {S:Nat → Prop} {v:Value} {w:World} (h:(RatNw n q).p S v w):(RatP q).p S v w:=(RatP q).mono (fun _ _ h=>h.1) h
theorem RatNw.elim {n:Nat} {q:Rat} {S:Nat → Prop} {v:Value} {w:World} (h:(RatNw n q).p S v w):∃ b,v = pt b ∧ n ≤ b ∧ (RatP q).p (· = b) (pt b) w:=by
 obtain ⟨b,h1,h2,h3⟩:=RatP.elim h
 exact ⟨b,h1,h2.2,h3⟩
theorem RatNw.isPtr {n q S v w} (h:(RatNw n q).p S v w):∃ b,v = .pointer (some ⟨b,0,none⟩):=RatP.isPtr (RatNw.r h)
section
variable {P:Program} {ρ:Operand → Value} {o:Oper} {w:World} {x y:Operand}
theorem x_nnN {t r:TypeId} (hx:ρ x = .pointer none) (hy:ρ y = .pointer none) (ho:o.op = .binOp .neq t x y r:=by rfl) (he:(Op.equal t (.pointer none) (.pointer none)).run P w = .ok true w:=by kernel_rfl):(execOp ρ o).run P w = .ok (.value (.bool false)) w:=by
 unfold execOp; simp [ho,hx,hy,eqGuard,binOp,he,Result.andThen]
end
section
variable {P:Program} {ops:Array Oper} {Q:Exit → Act → World → Prop} {o:Oper} {rest:List Oper} {a:Act} {w:World}
theorem wpT_bs (vs:List Value) {t e:TypeId} {n:Nat} {xs:Array (Nat × Operand)} (sz:Nat) {cs:Array Value} (hg:o.guard = none) (ho:o.op = .buildSlice t n xs) (hv:(xs.map fun (i,x)=>(i,a.eval x)).toList = (vs.zipIdx 0).map fun x=>(x.2,x.1)) (h1:∀ v ∈ vs,v.cells.size = sz) (hl:vs.length = n)
  (hu:sliceE P t = some e) (hi:(P.info? e).map (fun i=>(i.zero.isSome,i.size)) = some (true,sz)) (hp:0 < sz) (hn:0 < n) (hs:n * sz ≤ 16777216) (hc:(vs.flatMap fun v=>v.cells.toList).toArray = cs)
  (h:∀ b w', w.heap.size ≤ b → w'.heap[b]? = some (.cells cs e (0,0)) → RowKit.Below w.heap.size w w' → wpList P ops Q rest (a.put o.dst (.slice (some ⟨b,0,none⟩) n n)) w'):wpList P ops Q (o :: rest) a w:=by
 subst hc
 refine wpList_plain hg fun K hK=>?_
 simp only [Oper.wp,ex_bs (P:=P) vs ho hv h1 hl hu hi hp hn hs,Oper.upon]
 exact hK _ _ (h _ _ (Nat.le_refl _) (heap_alloc_new w _) ⟨rfl,rfl,rfl,by simp,fun k hk=>heap_alloc_old w _ hk⟩)
theorem wpT_bs1 {t e:TypeId} {x0:Operand} {v0:Value} (sz:Nat) {cs:Array Value} (hg:o.guard = none) (ho:o.op = .buildSlice t 1 #[(0,x0)]) (h0:a.eval x0 = v0) (s0:v0.cells.size = sz)
  (hu:sliceE P t = some e) (hi:(P.info? e).map (fun i=>(i.zero.isSome,i.size)) = some (true,sz)) (hp:0 < sz) (hs:1 * sz ≤ 16777216) (hc:([v0].flatMap fun v=>v.cells.toList).toArray = cs)
  (h:∀ b w', w.heap.size ≤ b → w'.heap[b]? = some (.cells cs e (0,0)) → RowKit.Below w.heap.size w w' → wpList P ops Q rest (a.put o.dst (.slice (some ⟨b,0,none⟩) 1 1)) w'):wpList P ops Q (o :: rest) a w :=
 wpT_bs [v0] sz hg ho (by simp [h0]) (by simp [s0]) rfl hu hi hp (by decide) hs hc h
theorem wpT_bs2 {t e:TypeId} {x0 x1:Operand} {v0 v1:Value} (sz:Nat) {cs:Array Value} (hg:o.guard = none) (ho:o.op = .buildSlice t 2 #[(0,x0),(1,x1)]) (h0:a.eval x0 = v0) (h1:a.eval x1 = v1) (s0:v0.cells.size = sz) (s1:v1.cells.size = sz)
  (hu:sliceE P t = some e) (hi:(P.info? e).map (fun i=>(i.zero.isSome,i.size)) = some (true,sz)) (hp:0 < sz) (hs:2 * sz ≤ 16777216) (hc:([v0,v1].flatMap fun v=>v.cells.toList).toArray = cs)
  (h:∀ b w', w.heap.size ≤ b → w'.heap[b]? = some (.cells cs e (0,0)) → RowKit.Below w.heap.size w w' → wpList P ops Q rest (a.put o.dst (.slice (some ⟨b,0,none⟩) 2 2)) w'):wpList P ops Q (o :: rest) a w :=
 wpT_bs [v0,v1] sz hg ho (by simp [h0,h1]) (by simp [s0,s1]) rfl hu hi hp (by decide) hs hc h
end
section
variable {P:Program} {ops:Array Oper} {Q:Exit → Act → World → Prop} {o o' : Oper} {rest:List Oper} {a:Act} {w:World}
end
def RetIf (c:Prop) (A:Ending → World → Prop):Ending → World → Prop:=fun e w=>c → A e w
def RetAnd (A B:Ending → World → Prop):Ending → World → Prop:=fun e w=>A e w ∧ B e w
end Go.Proofs.YtcpjdjnaipbieaaGreat
namespace Go.Proofs.YtcpjdjnaipbieaaGreat
open Go.RowKit Rgn
set_option maxHeartbeats 4000000
set_option maxRecDepth 100000
variable {S:Nat → Prop} {W:World}
theorem eNeg {v0:Value} (x:Cx) (t0:(NumP x).p S v0 W) (p0:ht x.re + ht x.im ≤ 8589934592) :
  Calls Tryz.prog 138 #[v0] W (Ret (NumP x.neg) S W):=by
 obtain ⟨x1,x2,rfl,F_x1,F_x2⟩:=t0
 replace F_x1:(RatN x.re).p (Amb S W) x1 W:=(RatN x.re).mono (fun _ _ h=>.inl h) F_x1
 replace F_x2:(RatN x.im).p (Amb S W) x2 W:=(RatN x.im).mono (fun _ _ h=>.inl h) F_x2
 have bel:=b0 W
 go_enter Tryz.func138,Tryz.ntmps138
 refine gs 2 (Amb S W) fun _ K3=>?_
 refine .bx rfl (fun H=>H.v 0 (.agg #[x1,x2])) ?_
 refine .al rfl (#[.pointer none,.pointer none]) ?_
 refine .dk (fun u=>.agg #[x1,x2]::u 0::u 1::us 11) K3 bel fun u1 w1 D bel=>?_
 obtain ⟨b4,E1_0,A4,B4⟩:=D.nw 0
 obtain ⟨b5,E1_1,A5,B5⟩:=D.nw 1
 have N4_5:=D.n2 0 1 E1_0 E1_1
 replace F_x1:=D.gr (RatN x.re) F_x1
 replace F_x2:=D.gr (RatN x.im) F_x2
 clear D
 refine gd1 12 (Amb S W) 11 B5 fun _ K6=>?_
 refine .al rfl zQ ?_
 refine .fz rfl 1 0 E1_0 ?_
 refine .e rfl (V:=x1) (fun H=>x_ldc (H.g 4 1) (H.b1 B4 (Ne.symm N4_5))) ?_
 refine .cR rfl [] Tryz.func236 (fun H=>⟨_,ar1 (H.g 5 2),eRat _ (H.was _ [] F_x1)⟩) ?_
 refine .cO rfl 0 Tryz.func189 (fun H h0 hz=>⟨_,ar2 (H.p 3 0 h0) (H.r 6 3),qNeg (x:=_) (RatBlk.of hz) (SV.any (H.a 3 rfl)) (by omega)⟩) ?_
 refine .al rfl zQ ?_
 refine .fz rfl 1 1 E1_0 ?_
 refine .e rfl (V:=x2) (fun H=>x_ldc (H.g 9 6) (H.b1 B4 (Ne.symm N4_5))) ?_
 refine .cR rfl [] Tryz.func236 (fun H=>⟨_,ar1 (H.g 10 7),eRat _ (H.was _ [] F_x2)⟩) ?_
 refine .cO rfl 5 Tryz.func189 (fun H h0 hz=>⟨_,ar2 (H.p 8 5 h0) (H.r 11 8),qNeg (x:=_) (RatBlk.of hz) (SV.any (H.a 8 rfl)) (by omega)⟩) ?_
 refine Go2.fn (i:=10) rfl (G0 rfl) (SP.fnL 10 [4,9] (fun u=>.agg #[(u 4).v,(u 9).v]) (by intro u u' h; simp [h 4 (by simp),h 9 (by simp)])) (fun u μ ρ H=>⟨_,by have e7:=H.r 7 4; have e12:=H.r 12 9; obtain ⟨x4,h4⟩:=RatP.isPtr (Own.any (H.a 4 rfl)); obtain ⟨x9,h9⟩:=RatP.isPtr (Own.any (H.a 9 rfl)); clear H; go_simp,SP.fnL_upd (by decide)⟩) ?_
 refine Go2.storeOld (i:=11) 0 b5 rfl rfl rfl ⟨_,_,_,B5,rfl⟩ (SP.old 0 b5 [4,9] (fun u=>#[(u 4).v,(u 9).v]) 178 (by intro u u' h; simp [h 4 (by simp),h 9 (by simp)]) (lt_of B5) (by intro y k hy; match y,hy with | 0,hy=>rfl)) (fun u μ ρ H=>?_) ?_
 · have e2:=H.z 2 E1_1; have e13:=H.e 13 10 (by kernel_rfl) (H.a 10 rfl); have o4:=VP1.rat (Own.any (H.a 4 rfl)); have o9:=VP1.rat (Own.any (H.a 9 rfl)); have hb:=H.blkOld B5 0 11 rfl (.inl rfl)
   refine ⟨μ.setRow b5 #[(u 4).v,(u 9).v],ex_store_row 178 _ _ rfl e2 e13 hb (by kernel_rfl) rfl (by simp [o4,o9] <;> rfl),fun g=>?_,setRow_only _ _ _⟩
   show (World.setRow _ _ _).heap[b5]? = _
   rw [setRow_at hb]; try simp [upd]
 refine .d1 (fun u=>.agg #[x1,x2]::u1 0::u1 1::sq u 0 11 []) K6 bel A5 fun u2 w2 D bel=>?_
 obtain ⟨b7,E2_4,A7,F7⟩:=D.ow 4
 obtain ⟨b8,E2_9,A8,F8⟩:=D.ow 9
 have N5_7:=D.n1 0 (lt_of B5) ((D.a 4 rfl).1.symm.trans E2_4)
 have N5_8:=D.n1 5 (lt_of B5) ((D.a 9 rfl).1.symm.trans E2_9)
 replace B5:w2.heap[b5]? = _:=(D.a 11 rfl)
 simp only [Value.cells,E2_4,E2_9] at B5
 have L7:Amb S W b7:=.inr A7
 have L8:Amb S W b8:=.inr A8
 clear D
 refine wp_ret ?_
 refine ret_ok rfl (by exact results_row rfl (by exact E1_1) B5 Tryz.underlying178 rfl (by kernel_rfl)) ⟨_,rfl,?_,bel⟩
 exact (NumP.mk (RatP.n (VP.at F7 L7)) (RatP.n (VP.at F8 L8)))
theorem eSame {v0:Value} {v1:Value} (x:Cx) (y:Cx) (t0:(NumP x).p S v0 W) (t1:(NumP y).p S v1 W) (p0:ht x.re + ht x.im + ht y.re + ht y.im ≤ 17179869184) :
  Calls Tryz.prog 179 #[v0,v1] W (RetV (.bool ((x.sub y).zero)) W):=by
 obtain ⟨x1,x2,rfl,F_x1,F_x2⟩:=t0
 replace F_x1:(RatN x.re).p (Amb S W) x1 W:=(RatN x.re).mono (fun _ _ h=>.inl h) F_x1
 replace F_x2:(RatN x.im).p (Amb S W) x2 W:=(RatN x.im).mono (fun _ _ h=>.inl h) F_x2
 obtain ⟨x3,x4,rfl,F_x3,F_x4⟩:=t1
 replace F_x3:(RatN y.re).p (Amb S W) x3 W:=(RatN y.re).mono (fun _ _ h=>.inl h) F_x3
 replace F_x4:(RatN y.im).p (Amb S W) x4 W:=(RatN y.im).mono (fun _ _ h=>.inl h) F_x4
 have h1:=hc_sub x y
 have bel:=b0 W
 go_enter Tryz.func179,Tryz.ntmps179
 refine gs 3 (Amb S W) fun _ K5=>?_
 refine .bx rfl (fun H=>H.v 0 (.agg #[x1,x2])) ?_
 refine .bx rfl (fun H=>H.v 1 (.agg #[x3,x4])) ?_
 refine .mc rfl ?_
 refine .dk (fun u=>.agg #[x1,x2]::.agg #[x3,x4]::sq u 0 3 (us 4)) K5 bel fun u1 w1 D bel=>?_
 obtain ⟨b6,E1_0,A6,B6⟩:=D.nw 0
 obtain ⟨b7,E1_1,A7,B7⟩:=D.nw 1
 have E1_2:=D.q 2
 replace F_x1:=D.gr (RatN x.re) F_x1
 replace F_x2:=D.gr (RatN x.im) F_x2
 replace F_x3:=D.gr (RatN y.re) F_x3
 replace F_x4:=D.gr (RatN y.im) F_x4
 clear D
 refine gs 5 (Amb S W) fun _ K8=>?_
 refine .lr rfl 2 E1_0 B6 ?_
 refine .lr rfl 3 E1_1 B7 ?_
 refine .cR rfl [] Tryz.func135 (fun H=>⟨_,ar2 (H.g 5 0) (H.g 6 1),eSub _ _ (NumP.mk (H.was _ [] F_x1) (H.was _ [] F_x2)) (NumP.mk (H.was _ [] F_x3) (H.was _ [] F_x4)) (by omega)⟩) ?_
 refine .cK rfl Tryz.func134 (fun H=>⟨_,ar1 (H.r 7 2),eZero _ (SV.any (H.a 2 rfl))⟩) ?_
 refine .mv rfl 3 ?_
 refine .dk (fun u=>.agg #[x1,x2]::.agg #[x3,x4]::u1 0::u1 1::u 4::sq u 0 4 []) K8 bel fun u2 w2 D bel=>?_
 have E2_4:=D.q 4
 clear D
 exact wp_ret (rt rfl E2_4 rfl bel)
theorem eReal {v0:Value} (x:Rat) (t0:(RatP x).p S v0 W) :
  Calls Tryz.prog 176 #[v0] W (Ret (NumP ⟨x,0⟩) S W):=by
 obtain ⟨b1,rfl,L1,F1⟩:=RatP.elim t0
 replace L1:Amb S W b1:=.inl L1
 have bel:=b0 W
 go_enter Tryz.func176,Tryz.ntmps176
 refine gs 1 (Amb S W) fun _ K2=>?_
 refine .al rfl (#[.pointer none,.pointer none]) ?_
 refine .dk (fun u=>pt b1::U::u 0::U::U::[]) K2 bel fun u1 w1 D bel=>?_
 obtain ⟨b3,E1_0,A3,B3⟩:=D.nw 0
 have N1_3:=D.n1 0 (RatP.lt F1) E1_0
 replace F1:=D.o L1 F1
 clear D
 refine gs1 3 (Amb S W) 2 B3 fun _ K4=>?_
 refine .mz rfl 0 (V:=pt b1) rfl ?_
 refine .e rfl (V:=.agg #[pt b1,.pointer none]) (fun H=>by have e3:=H.g 3 0; have k1:=H.c (.pointer none); clear H; go_simp) ?_
 refine .s1 rfl B3 (fun H=>⟨H.z 2 E1_0,H.g 4 1⟩) ?_
 refine .d1 (fun u=>pt b1::U::u1 0::u 0::u 1::[]) K4 bel A3 fun u2 w2 D bel=>?_
 replace B3:=D.ol 2
 replace F1:=D.o L1 F1
 clear D
 refine wp_ret ?_
 refine ret_ok rfl (by exact results_row rfl (by exact E1_0) B3 Tryz.underlying178 rfl (by kernel_rfl)) ⟨_,rfl,?_,bel⟩
 exact (NumP.mk (RatP.n (VP.at F1 L1)) (.inl ⟨rfl,rfl⟩))
theorem rgPow {v0:Value} (c:Ci) (t0:(RingP c).p S v0 W) (p0:ht c.a + ht c.b.re + ht c.b.im + ht c.c ≤ 1073741824) :
  Calls Tryz.prog 141 #[v0] W (Ret (RatP c.pow) S W):=by
 obtain ⟨b1,x2,x3,b4,rfl,L1,L4,F1,F_x2,F_x3,F4⟩:=RingP.elim t0
 replace L1:Amb S W b1:=.inl L1
 replace F_x2:(RatN c.b.re).p (Amb S W) x2 W:=(RatN c.b.re).mono (fun _ _ h=>.inl h) F_x2
 replace F_x3:(RatN c.b.im).p (Amb S W) x3 W:=(RatN c.b.im).mono (fun _ _ h=>.inl h) F_x3
 replace L4:Amb S W b4:=.inl L4
 have h1:=hc_norm c.b
 have h2:=ht_mul c.a c.c
 have bel:=b0 W
 go_enter Tryz.func141,Tryz.ntmps141
 refine gs 2 (Amb S W) fun _ K5=>?_
 refine .bx rfl (fun H=>H.v 0 (.agg #[pt b1,x2,x3,pt b4])) ?_
 refine .mc rfl ?_
 refine .dk (fun u=>.agg #[pt b1,x2,x3,pt b4]::u 0::u 1::us 10) K5 bel fun u1 w1 D bel=>?_
 obtain ⟨b6,E1_0,A6,B6⟩:=D.nw 0
 have E1_1:=D.q 1
 replace F1:=D.o L1 F1
 replace F4:=D.o L4 F4
 replace F_x2:=D.gr (RatN c.b.re) F_x2
 replace F_x3:=D.gr (RatN c.b.im) F_x3
 clear D
 refine gd 11 (Amb S W) fun _ K7=>?_
 refine .al rfl zQ ?_
 refine .fz rfl 1 1 E1_0 ?_
 refine .lp rfl 1 (#[x2,x3]) B6 ?_
 refine .cR rfl [] Tryz.func201 (fun H=>⟨_,ar1 (H.g 5 2),eNorm _ (NumP.mk (H.was _ [] F_x2) (H.was _ [] F_x3)) (by omega)⟩) ?_
 refine .fz rfl 1 0 E1_0 ?_
 refine .lc rfl 4 B6 ?_ (V:=pt b1)
 refine .fz rfl 1 3 E1_0 ?_
 refine .lc rfl 6 B6 ?_ (V:=pt b4)
 refine .cR rfl [] Tryz.func237 (fun H=>⟨_,ar2 (H.g 8 5) (H.g 10 7),eMul _ _ (RatP.n (H.was _ [] (VP.at F1 L1))) (RatP.n (H.was _ [] (VP.at F4 L4))) (by omega)⟩) ?_
 refine .cO rfl 0 Tryz.func192 (fun H h0 hz=>⟨_,ar3 (H.p 3 0 h0) (H.r 6 3) (H.r 11 8),qSub _ _ (RatBlk.of hz) (SV.any (H.a 3 rfl)) (SV.any (H.a 8 rfl)) (by omega)⟩) ?_
 refine .mo rfl 9 ?_
 refine .dk (fun u=>.agg #[pt b1,x2,x3,pt b4]::u1 0::u 10::sq u 0 10 []) K7 bel fun u2 w2 D bel=>?_
 obtain ⟨b8,E2_10,A8,F8⟩:=D.ow 10
 have L8:Amb S W b8:=.inr A8
 clear D
 refine wp_ret ?_
 refine ret_ok rfl (by exact results_tmp' rfl (by exact E2_10)) ⟨_,rfl,?_,bel⟩
 exact (VP.at F8 L8)
theorem rgNorm {v0:Value} (c:Ci) (t0:(RingP c).p S v0 W) (p0:ht c.a + ht c.b.re + ht c.b.im + ht c.c ≤ 1073741824) (p1:c.flat = false) :
  Calls Tryz.prog 144 #[v0] W (Ret (RingP c.nrm) S W):=by
 obtain ⟨b1,x2,x3,b4,rfl,L1,L4,F1,F_x2,F_x3,F4⟩:=RingP.elim t0
 replace L1:Amb S W b1:=.inl L1
 replace F_x2:(RatN c.b.re).p (Amb S W) x2 W:=(RatN c.b.re).mono (fun _ _ h=>.inl h) F_x2
 replace F_x3:(RatN c.b.im).p (Amb S W) x3 W:=(RatN c.b.im).mono (fun _ _ h=>.inl h) F_x3
 replace L4:Amb S W b4:=.inl L4
 have h1:=ht_inv c.a
 have h2:=ht_inv c.b.re
 have h3:=ht_inv c.b.im
 have bel:=b0 W
 go_enter Tryz.func144,Tryz.ntmps144
 refine gs 2 (Amb S W) fun _ K5=>?_
 refine .bx rfl (fun H=>H.v 0 (.agg #[pt b1,x2,x3,pt b4])) ?_
 refine .al rfl (#[.pointer none,.pointer none,.pointer none,.pointer none]) ?_
 refine .dk (fun u=>.agg #[pt b1,x2,x3,pt b4]::u 0::u 1::us 43) K5 bel fun u1 w1 D bel=>?_
 obtain ⟨b6,E1_0,A6,B6⟩:=D.nw 0
 obtain ⟨b7,E1_1,A7,B7⟩:=D.nw 1
 have N1_7:=D.n1 1 (RatP.lt F1) E1_1
 have N4_7:=D.n1 1 (RatP.lt F4) E1_1
 have N6_7:=D.n2 0 1 E1_0 E1_1
 replace F1:=D.o L1 F1
 replace F4:=D.o L4 F4
 replace F_x2:=D.gr (RatN c.b.re) F_x2
 replace F_x3:=D.gr (RatN c.b.im) F_x3
 clear D
 refine gs 8 (Amb S W) fun _ K8=>?_
 refine .fz rfl 1 1 E1_0 ?_
 refine .lp rfl 0 (#[x2,x3]) B6 ?_
 refine .cR rfl [] Tryz.func139 (fun H=>⟨_,ar1 (H.g 11 1),eParts _ (NumP.mk (H.was _ [] F_x2) (H.was _ [] F_x3))⟩) ?_
 refine .mn rfl 2 [2] ?_
 refine Go2.fn (i:=4) rfl (G0 rfl) (.val 4 [2,3] (RatP c.b.re)) (fun u μ ρ H=>by have e9:=H.r 9 3; have h0:=(H.a 3 rfl); obtain ⟨x0,x1,h1,h2⟩:=h0; rw [h1] at e9; exact ⟨x0,by clear H; go_simp,SP.tupKeep (by decide) (by decide) h2.1⟩) ?_
 refine Go2.fn (i:=5) rfl (G0 rfl) (.val 5 [2,3] (RatP c.b.im)) (fun u μ ρ H=>by have e9:=H.r 9 3; have h0:=(H.a 3 rfl); obtain ⟨x0,x1,h1,h2⟩:=h0; rw [h1] at e9; exact ⟨x1,by clear H; go_simp,SP.tupKeep (by decide) (by decide) h2.2⟩) ?_
 refine .mn rfl 4 [2,3,4] ?_
 refine .mn rfl 5 [2,3,5] ?_
 refine .dk (fun u=>.agg #[pt b1,x2,x3,pt b4]::u1 0::u1 1::u 6::u 7::U::U::U::U::u 3::sq u 0 3 (u 4::u 5::us 31)) K8 bel fun u2 w2 D bel=>?_
 obtain ⟨b9,E2_6,L9,F9⟩:=RatP.elim (D.rr 6)
 obtain ⟨b10,E2_7,L10,F10⟩:=RatP.elim (D.rr 7)
 replace B6:=D.k B6
 replace B7:=D.k B7
 replace F1:=D.o L1 F1
 replace F4:=D.o L4 F4
 replace F_x2:=D.gr (RatN c.b.re) F_x2
 replace F_x3:=D.gr (RatN c.b.im) F_x3
 clear D
 refine gs 3 (Amb S W) fun _ K11=>?_
 refine .fz rfl 1 0 E1_0 ?_
 refine .lc rfl 0 B6 ?_ (V:=pt b1)
 refine .mv rfl 1 ?_
 refine .dk (fun u=>.agg #[pt b1,x2,x3,pt b4]::u1 0::u1 1::u2 6::u2 7::u 2::U::U::U::u2 3::sq u2 0 3 (u2 4::u2 5::u 0::u 1::us 29)) K11 bel fun u3 w3 D bel=>?_
 have E3_2:=D.q 2
 replace B6:=D.k B6
 replace B7:=D.k B7
 replace F1:=D.o L1 F1
 replace F4:=D.o L4 F4
 replace F9:=D.o L9 F9
 replace F10:=D.o L10 F10
 replace F_x2:=D.gr (RatN c.b.re) F_x2
 replace F_x3:=D.gr (RatN c.b.im) F_x3
 clear D
 refine wp_seq_k fun _ K12=>?_
 refine gs 5 (Amb S W) fun _ K13=>?_
 refine .mz rfl 3 E2_6 ?_
 refine .mz rfl 4 E2_7 ?_
 refine .br2 rfl [] (fun H=>⟨_,_,(H.g 17 0),(H.g 18 1),(H.was _ [] (VP.at F9 L9)),(H.was _ [] (VP.at F10 L10))⟩) ?_
 refine .e rfl (V:=.int .i64 2) (fun H=>x_lenR (H.r 19 2) (SV.any (H.a 2 rfl))) ?_
 refine .mc rfl ?_
 refine .dk (fun u=>.agg #[pt b1,x2,x3,pt b4]::u1 0::u1 1::u2 6::u2 7::u3 2::U::U::U::u2 3::sq u2 0 3 (u2 4::u2 5::u3 0::u3 1::sq u 0 5 (us 24))) K13 bel fun u4 w4 D bel=>?_
 obtain ⟨b14,b15,b16,E4_2,B14,L15,L16,F15,F16⟩:=RatsP.elim2 (D.rr 2)
 have E4_3:=D.q 3
 have E4_4:=D.q 4
 replace B6:=D.k B6
 replace B7:=D.k B7
 replace F1:=D.o L1 F1
 replace F4:=D.o L4 F4
 replace F_x2:=D.gr (RatN c.b.re) F_x2
 replace F_x3:=D.gr (RatN c.b.im) F_x3
 clear D
 refine wp_block ?_
 refine wp_loop_rounds 3 ?_
 refine rounds_k fun K17 hK17=>?_
 refine gs 1 (Amb S W) fun _ K18=>?_
 refine .e rfl (V:=.bool true) (fun H=>x_cmp (H.z 21 E4_4) (H.z 20 E4_3)) ?_
 refine .dk (fun u=>.agg #[pt b1,x2,x3,pt b4]::u1 0::u1 1::u2 6::u2 7::u3 2::U::U::U::u2 3::sq u2 0 3 (u2 4::u2 5::u3 0::u3 1::sq u4 0 5 (u 0::us 23))) K18 bel fun u5 w5 D bel=>?_
 have E5_0:=D.q 0
 replace B6:=D.k B6
 replace B7:=D.k B7
 replace B14:=D.k B14
 replace F1:=D.o L1 F1
 replace F4:=D.o L4 F4
 replace F15:=D.o L15 F15
 replace F16:=D.o L16 F16
 replace F_x2:=D.gr (RatN c.b.re) F_x2
 replace F_x3:=D.gr (RatN c.b.im) F_x3
 clear D
 refine wp_seq_k fun _ K19=>?_
 refine wp_cond_true (by exact E5_0) ?_
 refine wp_skip ?_
 refine K19 _ _ ?_
 refine wp_seq_k fun _ K20=>?_
 refine wp_block ?_
 refine gs 3 (Amb S W) fun _ K21=>?_
 refine .e rfl (V:=pt b14) (fun H=>x_ixs 1 (H.z 19 E4_2) (H.z 21 E4_4)) ?_
 refine .lc rfl 0 B14 ?_ (V:=pt b15)
 refine .mv rfl 1 ?_
 refine .dk (fun u=>.agg #[pt b1,x2,x3,pt b4]::u1 0::u1 1::u2 6::u2 7::u3 2::U::u 2::U::u2 3::sq u2 0 3 (u2 4::u2 5::u3 0::u3 1::sq u4 0 5 (u5 0::u 0::u 1::us 21))) K21 bel fun u6 w6 D bel=>?_
 have E6_0:=D.q 0
 have E6_1:=D.q 1
 have E6_2:=D.q 2
 replace B6:=D.k B6
 replace B7:=D.k B7
 replace B14:=D.k B14
 replace F1:=D.o L1 F1
 replace F4:=D.o L4 F4
 replace F15:=D.o L15 F15
 replace F16:=D.o L16 F16
 replace F_x2:=D.gr (RatN c.b.re) F_x2
 replace F_x3:=D.gr (RatN c.b.im) F_x3
 clear D
 refine gs 3 (Amb S W) fun _ K22=>?_
 refine .mz rfl 5 E3_2 ?_
 refine .cK rfl Tryz.func140 (fun H=>⟨_,ar1 (H.g 25 0),qSign _ (VP.any _ (H.was _ [] (VP.at F1 L1)))⟩) ?_
 refine .e rfl (V:=.bool (c.a.num.sign == 0)) (fun H=>x_cmp (H.g 26 1) (H.c _)) ?_
 refine .dk (fun u=>.agg #[pt b1,x2,x3,pt b4]::u1 0::u1 1::u2 6::u2 7::u3 2::U::u6 2::U::u2 3::sq u2 0 3 (u2 4::u2 5::u3 0::u3 1::sq u4 0 5 (u5 0::u6 0::u6 1::sq u 0 3 (us 18)))) K22 bel fun u7 w7 D bel=>?_
 have E7_0:=D.q 0
 have E7_1:=D.q 1
 have E7_2:=D.q 2
 replace B6:=D.k B6
 replace B7:=D.k B7
 replace B14:=D.k B14
 replace F1:=D.o L1 F1
 replace F4:=D.o L4 F4
 replace F15:=D.o L15 F15
 replace F16:=D.o L16 F16
 replace F_x2:=D.gr (RatN c.b.re) F_x2
 replace F_x3:=D.gr (RatN c.b.im) F_x3
 clear D
 rcases Bool.eq_false_or_eq_true (c.a.num.sign == 0) with c23 | c23
 ·
  refine wp_cond_true ((E7_2).trans (congrArg Value.bool c23)) ?_
  refine go2_seq 2 rfl (Amb S W) [] [] (Olds.nil _) (by kernel_rfl) ?_
  refine .mz rfl 7 E6_2 ?_
  refine .mv rfl 0 ?_
  refine .dd (fun u=>⟨List.toArray (.agg #[pt b1,x2,x3,pt b4]::u1 0::u1 1::u2 6::u2 7::u 1::U::u6 2::U::u2 3::sq u2 0 3 (u2 4::u2 5::u3 0::u3 1::sq u4 0 5 (u5 0::u6 0::u6 1::sq u7 0 3 (u 0::us 17)))),[]⟩) bel.size fun u8 w8 D=>?_
  have E8_0:=D.q 0
  have E8_1:=D.q 1
  replace B6:=D.k B6
  replace B7:=D.k B7
  replace B14:=D.k B14
  replace F1:=D.o L1 F1
  replace F4:=D.o L4 F4
  replace F15:=D.o L15 F15
  replace F16:=D.o L16 F16
  replace F_x2:=D.gr (RatN c.b.re) F_x2
  replace F_x3:=D.gr (RatN c.b.im) F_x3
  replace bel:=D.d.base.bel0 bel bel.size
  clear D
  refine inBlock_normal ?_
  refine K20 _ _ ?_
  refine wp_region_list ?_
  refine wpT_val (v:=.int .i64 1) rfl (by have aw_:IntKind.wrap .i64 1 = 1:=(by decide); have:=E4_4; go_simp) ?_
  refine wpT_val rfl (ex_move rfl) ?_
  refine wpList_nil ?_
  show _
  refine hK17 _ _ ?_
  refine rounds_k fun K24 hK24=>?_
  refine gs 1 (Amb S W) fun _ K25=>?_
  refine .e rfl (V:=.bool true) (fun H=>x_cmp (H.v 21 (.int .i64 1)) (H.z 20 E4_3)) ?_
  refine .dk (fun u=>.agg #[pt b1,x2,x3,pt b4]::u1 0::u1 1::u2 6::u2 7::u8 1::U::u6 2::U::u2 3::sq u2 0 3 (u2 4::u2 5::u3 0::u3 1::sq u4 0 4 (.int .i64 1::u 0::u6 0::u6 1::sq u7 0 3 (u8 0::.int .i64 1::us 16)))) K25 bel fun u10 w10 D bel=>?_
  have E10_0:=D.q 0
  replace B6:=D.k B6
  replace B7:=D.k B7
  replace B14:=D.k B14
  replace F1:=D.o L1 F1
  replace F4:=D.o L4 F4
  replace F15:=D.o L15 F15
  replace F16:=D.o L16 F16
  replace F_x2:=D.gr (RatN c.b.re) F_x2
  replace F_x3:=D.gr (RatN c.b.im) F_x3
  clear D
  refine wp_seq_k fun _ K26=>?_
  refine wp_cond_true (by exact E10_0) ?_
  refine wp_skip ?_
  refine K26 _ _ ?_
  refine wp_seq_k fun _ K27=>?_
  refine wp_block ?_
  refine gs 3 (Amb S W) fun _ K28=>?_
  refine .e rfl (V:=.pointer (some ⟨b14,1,none⟩)) (fun H=>x_ixs 1 (H.z 19 E4_2) (H.v 21 (.int .i64 1))) ?_
  refine .lc rfl 0 B14 ?_ (V:=pt b16)
  refine .mv rfl 1 ?_
  refine .dk (fun u=>.agg #[pt b1,x2,x3,pt b4]::u1 0::u1 1::u2 6::u2 7::u8 1::U::u 2::U::u2 3::sq u2 0 3 (u2 4::u2 5::u3 0::u3 1::sq u4 0 4 (.int .i64 1::u10 0::u 0::u 1::sq u7 0 3 (u8 0::.int .i64 1::us 16)))) K28 bel fun u11 w11 D bel=>?_
  have E11_0:=D.q 0
  have E11_1:=D.q 1
  have E11_2:=D.q 2
  replace B6:=D.k B6
  replace B7:=D.k B7
  replace B14:=D.k B14
  replace F1:=D.o L1 F1
  replace F4:=D.o L4 F4
  replace F15:=D.o L15 F15
  replace F16:=D.o L16 F16
  replace F_x2:=D.gr (RatN c.b.re) F_x2
  replace F_x3:=D.gr (RatN c.b.im) F_x3
  clear D
  refine gs 3 (Amb S W) fun _ K29=>?_
  refine .mz rfl 5 E8_1 ?_
  refine .cK rfl Tryz.func140 (fun H=>⟨_,ar1 (H.g 25 0),qSign _ (VP.any _ (H.was _ [] (VP.at F15 L15)))⟩) ?_
  refine .e rfl (V:=.bool (c.b.re.num.sign == 0)) (fun H=>x_cmp (H.g 26 1) (H.c _)) ?_
  refine .dk (fun u=>.agg #[pt b1,x2,x3,pt b4]::u1 0::u1 1::u2 6::u2 7::u8 1::U::u11 2::U::u2 3::sq u2 0 3 (u2 4::u2 5::u3 0::u3 1::sq u4 0 4 (.int .i64 1::u10 0::u11 0::u11 1::sq u 0 3 (u8 0::.int .i64 1::us 16)))) K29 bel fun u12 w12 D bel=>?_
  have E12_0:=D.q 0
  have E12_1:=D.q 1
  have E12_2:=D.q 2
  replace B6:=D.k B6
  replace B7:=D.k B7
  replace B14:=D.k B14
  replace F1:=D.o L1 F1
  replace F4:=D.o L4 F4
  replace F15:=D.o L15 F15
  replace F16:=D.o L16 F16
  replace F_x2:=D.gr (RatN c.b.re) F_x2
  replace F_x3:=D.gr (RatN c.b.im) F_x3
  clear D
  rcases Bool.eq_false_or_eq_true (c.b.re.num.sign == 0) with c30 | c30
  ·
   refine wp_cond_true ((E12_2).trans (congrArg Value.bool c30)) ?_
   refine go2_seq 2 rfl (Amb S W) [] [] (Olds.nil _) (by kernel_rfl) ?_
   refine .mz rfl 7 E11_2 ?_
   refine .mv rfl 0 ?_
   refine .dd (fun u=>⟨List.toArray (.agg #[pt b1,x2,x3,pt b4]::u1 0::u1 1::u2 6::u2 7::u 1::U::u11 2::U::u2 3::sq u2 0 3 (u2 4::u2 5::u3 0::u3 1::sq u4 0 4 (.int .i64 1::u10 0::u11 0::u11 1::sq u12 0 3 (u 0::.int .i64 1::us 16)))),[]⟩) bel.size fun u13 w13 D=>?_
   have E13_0:=D.q 0
   have E13_1:=D.q 1
   replace B6:=D.k B6
   replace B7:=D.k B7
   replace B14:=D.k B14
   replace F1:=D.o L1 F1
   replace F4:=D.o L4 F4
   replace F15:=D.o L15 F15
   replace F16:=D.o L16 F16
   replace F_x2:=D.gr (RatN c.b.re) F_x2
   replace F_x3:=D.gr (RatN c.b.im) F_x3
   replace bel:=D.d.base.bel0 bel bel.size
   clear D
   refine inBlock_normal ?_
   refine K27 _ _ ?_
   refine wp_region_list ?_
   refine wpT_val (v:=.int .i64 2) rfl (by have aw_:IntKind.wrap .i64 2 = 2:=(by decide); go_simp) ?_
   refine wpT_val rfl (ex_move rfl) ?_
   refine wpList_nil ?_
   show _
   refine hK24 _ _ ?_
   refine rounds_k fun K31 hK31=>?_
   refine gs 1 (Amb S W) fun _ K32=>?_
   refine .e rfl (V:=.bool false) (fun H=>x_cmp (H.v 21 (.int .i64 2)) (H.z 20 E4_3)) ?_
   refine .dk (fun u=>.agg #[pt b1,x2,x3,pt b4]::u1 0::u1 1::u2 6::u2 7::u13 1::U::u11 2::U::u2 3::sq u2 0 3 (u2 4::u2 5::u3 0::u3 1::sq u4 0 4 (.int .i64 2::u 0::u11 0::u11 1::sq u12 0 3 (u13 0::.int .i64 2::us 16)))) K32 bel fun u15 w15 D bel=>?_
   have E15_0:=D.q 0
   replace B6:=D.k B6
   replace B7:=D.k B7
   replace B14:=D.k B14
   replace F1:=D.o L1 F1
   replace F4:=D.o L4 F4
   replace F15:=D.o L15 F15
   replace F16:=D.o L16 F16
   replace F_x2:=D.gr (RatN c.b.re) F_x2
   replace F_x3:=D.gr (RatN c.b.im) F_x3
   clear D
   refine wp_seq_k fun _ K33=>?_
   refine wp_cond_false (by exact E15_0) ?_
   refine wp_exit ?_
   refine then_exit ?_
   refine then_exit ?_
   refine inBlock_here ?_
   refine K12 _ _ ?_
   refine gs 4 (Amb S W) fun _ K34=>?_
   refine .al rfl zQ ?_
   refine .mz rfl 5 E13_1 ?_
   refine .cO rfl 0 Tryz.func199 (fun H h0 hz=>⟨_,ar2 (H.p 30 0 h0) (H.g 31 1),qInv _ (RatBlk.of hz) (VP.any _ (H.was _ [] (VP.at F16 L16))) (by first | omega | exact nz_2 p1 c23 c30 | exact sgn_no c30 | exact sgn_no c23) (by first | omega | exact nz_2 p1 c23 c30 | exact sgn_no c30 | exact sgn_no c23)⟩) ?_
   refine .mo rfl 2 ?_
   refine .dk (fun u=>.agg #[pt b1,x2,x3,pt b4]::u1 0::u1 1::u2 6::u2 7::u13 1::U::u11 2::u 3::u2 3::sq u2 0 3 (u2 4::u2 5::u3 0::u3 1::sq u4 0 4 (.int .i64 2::u15 0::u11 0::u11 1::sq u12 0 3 (u13 0::.int .i64 2::sq u 0 3 (us 13))))) K34 bel fun u16 w16 D bel=>?_
   obtain ⟨b35,E16_3,A35,F35⟩:=D.ow 3
   have N7_35:=D.n1 0 (lt_of B7) ((D.a 3 rfl).1.symm.trans E16_3)
   replace B6:=D.k B6
   replace B7:=D.k B7
   replace F1:=D.o L1 F1
   replace F4:=D.o L4 F4
   replace F_x2:=D.gr (RatN c.b.re) F_x2
   replace F_x3:=D.gr (RatN c.b.im) F_x3
   have L35:Amb S W b35:=.inr A35
   clear D
   refine gd1 14 (Amb S W) 13 B7 fun _ K36=>?_
   refine .fz rfl 1 0 E1_0 ?_
   refine .e rfl (V:=pt b1) (fun H=>x_ldc (H.g 33 0) (H.b1 B6 (Ne.symm N6_7))) ?_
   refine .mz rfl 8 E16_3 ?_
   refine .cR rfl [] Tryz.func237 (fun H=>⟨_,ar2 (H.g 34 1) (H.g 35 2),eMul _ _ (RatP.n (H.was _ [] (VP.at F1 L1))) (RatP.n (H.was _ [] (VP.at F35 L35))) (by first | omega | exact nz_2 p1 c23 c30 | exact sgn_no c30 | exact sgn_no c23)⟩) ?_
   refine .fz rfl 1 1 E1_0 ?_
   refine .e rfl (V:=.agg #[x2,x3]) (fun H=>x_ldp (H.g 37 4) (H.b1 B6 (Ne.symm N6_7))) ?_
   refine .mz rfl 8 E16_3 ?_
   refine .cR rfl [] Tryz.func200 (fun H=>⟨_,ar2 (H.g 38 5) (H.g 39 6),eScale _ _ (NumP.mk (H.was _ [] F_x2) (H.was _ [] F_x3)) (RatP.n (H.was _ [] (VP.at F35 L35))) (by first | omega | exact nz_2 p1 c23 c30 | exact sgn_no c30 | exact sgn_no c23)⟩) ?_
   refine .fz rfl 1 3 E1_0 ?_
   refine .e rfl (V:=pt b4) (fun H=>x_ldc (H.g 41 8) (H.b1 B6 (Ne.symm N6_7))) ?_
   refine .mz rfl 8 E16_3 ?_
   refine .cR rfl [] Tryz.func237 (fun H=>⟨_,ar2 (H.g 42 9) (H.g 43 10),eMul _ _ (RatP.n (H.was _ [] (VP.at F4 L4))) (RatP.n (H.was _ [] (VP.at F35 L35))) (by first | omega | exact nz_2 p1 c23 c30 | exact sgn_no c30 | exact sgn_no c23)⟩) ?_
   refine Go2.fn (i:=12) rfl (G0 rfl) (SP.fnL 12 [3,7,11] (fun u=>.agg #[(u 3).v,(u 7).v.cells.getD 0 undef,(u 7).v.cells.getD 1 undef,(u 11).v]) (by intro u u' h; simp [h 3 (by simp),h 7 (by simp),h 11 (by simp)])) (fun u μ ρ H=>⟨_,by have e36:=H.r 36 3; have e40:=H.r 40 7; have e44:=H.r 44 11; obtain ⟨x1_7,x2_7,h1_7,h2_7,h3_7⟩:=(H.a 7 rfl); obtain ⟨x3,h3⟩:=RatP.isPtr (H.a 3 rfl); obtain ⟨x11,h11⟩:=RatP.isPtr (H.a 11 rfl); clear H; go_simp,SP.fnL_upd (by decide)⟩) ?_
   refine Go2.storeOld (i:=13) 0 b7 rfl rfl rfl ⟨_,_,_,B7,rfl⟩ (SP.old 0 b7 [3,7,11] (fun u=>#[(u 3).v,((u 7).v.cells.getD 0 undef),((u 7).v.cells.getD 1 undef),(u 11).v]) 203 (by intro u u' h; simp [h 3 (by simp),h 7 (by simp),h 11 (by simp)]) (lt_of B7) (by intro y k hy; match y,hy with | 0,hy=>rfl)) (fun u μ ρ H=>?_) ?_
   · have e2:=H.z 2 E1_1; have e45:=H.e 45 12 (by kernel_rfl) (H.a 12 rfl); have o3:=VP1.rat (H.a 3 rfl); have op7_0:((u 7).v.cells[0]?.getD undef).oneCell' = true:=(by obtain ⟨x1,x2,h1,h2,h3⟩:=(H.a 7 rfl); rw [h1]; exact VP1.ratn h2); have op7_1:((u 7).v.cells[1]?.getD undef).oneCell' = true:=(by obtain ⟨x1,x2,h1,h2,h3⟩:=(H.a 7 rfl); rw [h1]; exact VP1.ratn h3); have o11:=VP1.rat (H.a 11 rfl); have hb:=H.blkOld B7 0 13 rfl (.inl rfl)
     refine ⟨μ.setRow b7 #[(u 3).v,((u 7).v.cells.getD 0 undef),((u 7).v.cells.getD 1 undef),(u 11).v],ex_store_row 203 _ _ rfl e2 e45 hb (by kernel_rfl) rfl (by simp [o3,op7_0,ptr1,op7_1,o11] <;> rfl),fun g=>?_,setRow_only _ _ _⟩
     show (World.setRow _ _ _).heap[b7]? = _
     rw [setRow_at hb]; try simp [upd]
   refine .d1 (fun u=>.agg #[pt b1,x2,x3,pt b4]::u1 0::u1 1::u2 6::u2 7::u13 1::U::u11 2::u16 3::u2 3::sq u2 0 3 (u2 4::u2 5::u3 0::u3 1::sq u4 0 4 (.int .i64 2::u15 0::u11 0::u11 1::sq u12 0 3 (u13 0::.int .i64 2::sq u16 0 3 (sq u 0 13 []))))) K36 bel A7 fun u17 w17 D bel=>?_
   obtain ⟨b37,E17_3,L37,F37⟩:=RatP.elim (D.rr 3)
   obtain ⟨x38,x39,E17_7,F_x38,F_x39⟩:=(D.rr 7)
   obtain ⟨b40,E17_11,L40,F40⟩:=RatP.elim (D.rr 11)
   replace B7:w17.heap[b7]? = _:=(D.a 13 rfl)
   simp only [Value.cells,E17_3,E17_7,E17_11] at B7
   clear D
   refine wp_ret ?_
   refine ret_ok rfl (by exact results_row rfl (by exact E1_1) B7 Tryz.underlying203 rfl (by kernel_rfl)) ⟨_,rfl,?_,bel⟩
   exact ring_eq (nrm_2 c23 c30) (RingP.mk (VP.at F37 L37) F_x38 F_x39 (VP.at F40 L40))
  ·
   refine wp_cond_false ((E12_2).trans (congrArg Value.bool c30)) ?_
   refine wp_skip ?_
   refine inBlock_normal ?_
   refine K27 _ _ ?_
   refine wp_region_list ?_
   refine wpT_val (v:=.int .i64 2) rfl (by have aw_:IntKind.wrap .i64 2 = 2:=(by decide); go_simp) ?_
   refine wpT_val rfl (ex_move rfl) ?_
   refine wpList_nil ?_
   show _
   refine hK24 _ _ ?_
   refine rounds_k fun K41 hK41=>?_
   refine gs 1 (Amb S W) fun _ K42=>?_
   refine .e rfl (V:=.bool false) (fun H=>x_cmp (H.v 21 (.int .i64 2)) (H.z 20 E4_3)) ?_
   refine .dk (fun u=>.agg #[pt b1,x2,x3,pt b4]::u1 0::u1 1::u2 6::u2 7::u8 1::U::u11 2::U::u2 3::sq u2 0 3 (u2 4::u2 5::u3 0::u3 1::sq u4 0 4 (.int .i64 2::u 0::u11 0::u11 1::sq u12 0 3 (u8 0::.int .i64 2::us 16)))) K42 bel fun u19 w19 D bel=>?_
   have E19_0:=D.q 0
   replace B6:=D.k B6
   replace B7:=D.k B7
   replace B14:=D.k B14
   replace F1:=D.o L1 F1
   replace F4:=D.o L4 F4
   replace F15:=D.o L15 F15
   replace F16:=D.o L16 F16
   replace F_x2:=D.gr (RatN c.b.re) F_x2
   replace F_x3:=D.gr (RatN c.b.im) F_x3
   clear D
   refine wp_seq_k fun _ K43=>?_
   refine wp_cond_false (by exact E19_0) ?_
   refine wp_exit ?_
   refine then_exit ?_
   refine then_exit ?_
   refine inBlock_here ?_
   refine K12 _ _ ?_
   refine gs 4 (Amb S W) fun _ K44=>?_
   refine .al rfl zQ ?_
   refine .mz rfl 5 E8_1 ?_
   refine .cO rfl 0 Tryz.func199 (fun H h0 hz=>⟨_,ar2 (H.p 30 0 h0) (H.g 31 1),qInv _ (RatBlk.of hz) (VP.any _ (H.was _ [] (VP.at F15 L15))) (by first | omega | exact nz_2 p1 c23 c30 | exact sgn_no c30 | exact sgn_no c23) (by first | omega | exact nz_2 p1 c23 c30 | exact sgn_no c30 | exact sgn_no c23)⟩) ?_
   refine .mo rfl 2 ?_
   refine .dk (fun u=>.agg #[pt b1,x2,x3,pt b4]::u1 0::u1 1::u2 6::u2 7::u8 1::U::u11 2::u 3::u2 3::sq u2 0 3 (u2 4::u2 5::u3 0::u3 1::sq u4 0 4 (.int .i64 2::u19 0::u11 0::u11 1::sq u12 0 3 (u8 0::.int .i64 2::sq u 0 3 (us 13))))) K44 bel fun u20 w20 D bel=>?_
   obtain ⟨b45,E20_3,A45,F45⟩:=D.ow 3
   have N7_45:=D.n1 0 (lt_of B7) ((D.a 3 rfl).1.symm.trans E20_3)
   replace B6:=D.k B6
   replace B7:=D.k B7
   replace F1:=D.o L1 F1
   replace F4:=D.o L4 F4
   replace F_x2:=D.gr (RatN c.b.re) F_x2
   replace F_x3:=D.gr (RatN c.b.im) F_x3
   have L45:Amb S W b45:=.inr A45
   clear D
   refine gd1 14 (Amb S W) 13 B7 fun _ K46=>?_
   refine .fz rfl 1 0 E1_0 ?_
   refine .e rfl (V:=pt b1) (fun H=>x_ldc (H.g 33 0) (H.b1 B6 (Ne.symm N6_7))) ?_
   refine .mz rfl 8 E20_3 ?_
   refine .cR rfl [] Tryz.func237 (fun H=>⟨_,ar2 (H.g 34 1) (H.g 35 2),eMul _ _ (RatP.n (H.was _ [] (VP.at F1 L1))) (RatP.n (H.was _ [] (VP.at F45 L45))) (by first | omega | exact nz_2 p1 c23 c30 | exact sgn_no c30 | exact sgn_no c23)⟩) ?_
   refine .fz rfl 1 1 E1_0 ?_
   refine .e rfl (V:=.agg #[x2,x3]) (fun H=>x_ldp (H.g 37 4) (H.b1 B6 (Ne.symm N6_7))) ?_
   refine .mz rfl 8 E20_3 ?_
   refine .cR rfl [] Tryz.func200 (fun H=>⟨_,ar2 (H.g 38 5) (H.g 39 6),eScale _ _ (NumP.mk (H.was _ [] F_x2) (H.was _ [] F_x3)) (RatP.n (H.was _ [] (VP.at F45 L45))) (by first | omega | exact nz_2 p1 c23 c30 | exact sgn_no c30 | exact sgn_no c23)⟩) ?_
   refine .fz rfl 1 3 E1_0 ?_
   refine .e rfl (V:=pt b4) (fun H=>x_ldc (H.g 41 8) (H.b1 B6 (Ne.symm N6_7))) ?_
   refine .mz rfl 8 E20_3 ?_
   refine .cR rfl [] Tryz.func237 (fun H=>⟨_,ar2 (H.g 42 9) (H.g 43 10),eMul _ _ (RatP.n (H.was _ [] (VP.at F4 L4))) (RatP.n (H.was _ [] (VP.at F45 L45))) (by first | omega | exact nz_2 p1 c23 c30 | exact sgn_no c30 | exact sgn_no c23)⟩) ?_
   refine Go2.fn (i:=12) rfl (G0 rfl) (SP.fnL 12 [3,7,11] (fun u=>.agg #[(u 3).v,(u 7).v.cells.getD 0 undef,(u 7).v.cells.getD 1 undef,(u 11).v]) (by intro u u' h; simp [h 3 (by simp),h 7 (by simp),h 11 (by simp)])) (fun u μ ρ H=>⟨_,by have e36:=H.r 36 3; have e40:=H.r 40 7; have e44:=H.r 44 11; obtain ⟨x1_7,x2_7,h1_7,h2_7,h3_7⟩:=(H.a 7 rfl); obtain ⟨x3,h3⟩:=RatP.isPtr (H.a 3 rfl); obtain ⟨x11,h11⟩:=RatP.isPtr (H.a 11 rfl); clear H; go_simp,SP.fnL_upd (by decide)⟩) ?_
   refine Go2.storeOld (i:=13) 0 b7 rfl rfl rfl ⟨_,_,_,B7,rfl⟩ (SP.old 0 b7 [3,7,11] (fun u=>#[(u 3).v,((u 7).v.cells.getD 0 undef),((u 7).v.cells.getD 1 undef),(u 11).v]) 203 (by intro u u' h; simp [h 3 (by simp),h 7 (by simp),h 11 (by simp)]) (lt_of B7) (by intro y k hy; match y,hy with | 0,hy=>rfl)) (fun u μ ρ H=>?_) ?_
   · have e2:=H.z 2 E1_1; have e45:=H.e 45 12 (by kernel_rfl) (H.a 12 rfl); have o3:=VP1.rat (H.a 3 rfl); have op7_0:((u 7).v.cells[0]?.getD undef).oneCell' = true:=(by obtain ⟨x1,x2,h1,h2,h3⟩:=(H.a 7 rfl); rw [h1]; exact VP1.ratn h2); have op7_1:((u 7).v.cells[1]?.getD undef).oneCell' = true:=(by obtain ⟨x1,x2,h1,h2,h3⟩:=(H.a 7 rfl); rw [h1]; exact VP1.ratn h3); have o11:=VP1.rat (H.a 11 rfl); have hb:=H.blkOld B7 0 13 rfl (.inl rfl)
     refine ⟨μ.setRow b7 #[(u 3).v,((u 7).v.cells.getD 0 undef),((u 7).v.cells.getD 1 undef),(u 11).v],ex_store_row 203 _ _ rfl e2 e45 hb (by kernel_rfl) rfl (by simp [o3,op7_0,ptr1,op7_1,o11] <;> rfl),fun g=>?_,setRow_only _ _ _⟩
     show (World.setRow _ _ _).heap[b7]? = _
     rw [setRow_at hb]; try simp [upd]
   refine .d1 (fun u=>.agg #[pt b1,x2,x3,pt b4]::u1 0::u1 1::u2 6::u2 7::u8 1::U::u11 2::u20 3::u2 3::sq u2 0 3 (u2 4::u2 5::u3 0::u3 1::sq u4 0 4 (.int .i64 2::u19 0::u11 0::u11 1::sq u12 0 3 (u8 0::.int .i64 2::sq u20 0 3 (sq u 0 13 []))))) K46 bel A7 fun u21 w21 D bel=>?_
   obtain ⟨b47,E21_3,L47,F47⟩:=RatP.elim (D.rr 3)
   obtain ⟨x48,x49,E21_7,F_x48,F_x49⟩:=(D.rr 7)
   obtain ⟨b50,E21_11,L50,F50⟩:=RatP.elim (D.rr 11)
   replace B7:w21.heap[b7]? = _:=(D.a 13 rfl)
   simp only [Value.cells,E21_3,E21_7,E21_11] at B7
   clear D
   refine wp_ret ?_
   refine ret_ok rfl (by exact results_row rfl (by exact E1_1) B7 Tryz.underlying203 rfl (by kernel_rfl)) ⟨_,rfl,?_,bel⟩
   exact ring_eq (nrm_1 c23 c30) (RingP.mk (VP.at F47 L47) F_x48 F_x49 (VP.at F50 L50))
 ·
  refine wp_cond_false ((E7_2).trans (congrArg Value.bool c23)) ?_
  refine wp_skip ?_
  refine inBlock_normal ?_
  refine K20 _ _ ?_
  refine wp_region_list ?_
  refine wpT_val (v:=.int .i64 1) rfl (by have aw_:IntKind.wrap .i64 1 = 1:=(by decide); have:=E4_4; go_simp) ?_
  refine wpT_val rfl (ex_move rfl) ?_
  refine wpList_nil ?_
  show _
  refine hK17 _ _ ?_
  refine rounds_k fun K51 hK51=>?_
  refine gs 1 (Amb S W) fun _ K52=>?_
  refine .e rfl (V:=.bool true) (fun H=>x_cmp (H.v 21 (.int .i64 1)) (H.z 20 E4_3)) ?_
  refine .dk (fun u=>.agg #[pt b1,x2,x3,pt b4]::u1 0::u1 1::u2 6::u2 7::u3 2::U::u6 2::U::u2 3::sq u2 0 3 (u2 4::u2 5::u3 0::u3 1::sq u4 0 4 (.int .i64 1::u 0::u6 0::u6 1::sq u7 0 3 (U::.int .i64 1::us 16)))) K52 bel fun u23 w23 D bel=>?_
  have E23_0:=D.q 0
  replace B6:=D.k B6
  replace B7:=D.k B7
  replace B14:=D.k B14
  replace F1:=D.o L1 F1
  replace F4:=D.o L4 F4
  replace F15:=D.o L15 F15
  replace F16:=D.o L16 F16
  replace F_x2:=D.gr (RatN c.b.re) F_x2
  replace F_x3:=D.gr (RatN c.b.im) F_x3
  clear D
  refine wp_seq_k fun _ K53=>?_
  refine wp_cond_true (by exact E23_0) ?_
  refine wp_skip ?_
  refine K53 _ _ ?_
  refine wp_seq_k fun _ K54=>?_
  refine wp_block ?_
  refine gs 3 (Amb S W) fun _ K55=>?_
  refine .e rfl (V:=.pointer (some ⟨b14,1,none⟩)) (fun H=>x_ixs 1 (H.z 19 E4_2) (H.v 21 (.int .i64 1))) ?_
  refine .lc rfl 0 B14 ?_ (V:=pt b16)
  refine .mv rfl 1 ?_
  refine .dk (fun u=>.agg #[pt b1,x2,x3,pt b4]::u1 0::u1 1::u2 6::u2 7::u3 2::U::u 2::U::u2 3::sq u2 0 3 (u2 4::u2 5::u3 0::u3 1::sq u4 0 4 (.int .i64 1::u23 0::u 0::u 1::sq u7 0 3 (U::.int .i64 1::us 16)))) K55 bel fun u24 w24 D bel=>?_
  have E24_0:=D.q 0
  have E24_1:=D.q 1
  have E24_2:=D.q 2
  replace B6:=D.k B6
  replace B7:=D.k B7
  replace B14:=D.k B14
  replace F1:=D.o L1 F1
  replace F4:=D.o L4 F4
  replace F15:=D.o L15 F15
  replace F16:=D.o L16 F16
  replace F_x2:=D.gr (RatN c.b.re) F_x2
  replace F_x3:=D.gr (RatN c.b.im) F_x3
  clear D
  refine gs 3 (Amb S W) fun _ K56=>?_
  refine .mz rfl 5 E3_2 ?_
  refine .cK rfl Tryz.func140 (fun H=>⟨_,ar1 (H.g 25 0),qSign _ (VP.any _ (H.was _ [] (VP.at F1 L1)))⟩) ?_
  refine .e rfl (V:=.bool false) (fun H=>x_cm (H.g 26 1) (H.c _) c23) ?_
  refine .dk (fun u=>.agg #[pt b1,x2,x3,pt b4]::u1 0::u1 1::u2 6::u2 7::u3 2::U::u24 2::U::u2 3::sq u2 0 3 (u2 4::u2 5::u3 0::u3 1::sq u4 0 4 (.int .i64 1::u23 0::u24 0::u24 1::sq u 0 3 (U::.int .i64 1::us 16)))) K56 bel fun u25 w25 D bel=>?_
  have E25_0:=D.q 0
  have E25_1:=D.q 1
  have E25_2:=D.q 2
  replace B6:=D.k B6
  replace B7:=D.k B7
  replace B14:=D.k B14
  replace F1:=D.o L1 F1
  replace F4:=D.o L4 F4
  replace F15:=D.o L15 F15
  replace F16:=D.o L16 F16
  replace F_x2:=D.gr (RatN c.b.re) F_x2
  replace F_x3:=D.gr (RatN c.b.im) F_x3
  clear D
  refine wp_cond_false (by exact E25_2) ?_
  refine wp_skip ?_
  refine inBlock_normal ?_
  refine K54 _ _ ?_
  refine wp_region_list ?_
  refine wpT_val (v:=.int .i64 2) rfl (by have aw_:IntKind.wrap .i64 2 = 2:=(by decide); go_simp) ?_
  refine wpT_val rfl (ex_move rfl) ?_
  refine wpList_nil ?_
  show _
  refine hK51 _ _ ?_
  refine rounds_k fun K57 hK57=>?_
  refine gs 1 (Amb S W) fun _ K58=>?_
  refine .e rfl (V:=.bool false) (fun H=>x_cmp (H.v 21 (.int .i64 2)) (H.z 20 E4_3)) ?_
  refine .dk (fun u=>.agg #[pt b1,x2,x3,pt b4]::u1 0::u1 1::u2 6::u2 7::u3 2::U::u24 2::U::u2 3::sq u2 0 3 (u2 4::u2 5::u3 0::u3 1::sq u4 0 4 (.int .i64 2::u 0::u24 0::u24 1::sq u25 0 3 (U::.int .i64 2::us 16)))) K58 bel fun u27 w27 D bel=>?_
  have E27_0:=D.q 0
  replace B6:=D.k B6
  replace B7:=D.k B7
  replace B14:=D.k B14
  replace F1:=D.o L1 F1
  replace F4:=D.o L4 F4
  replace F15:=D.o L15 F15
  replace F16:=D.o L16 F16
  replace F_x2:=D.gr (RatN c.b.re) F_x2
  replace F_x3:=D.gr (RatN c.b.im) F_x3
  clear D
  refine wp_seq_k fun _ K59=>?_
  refine wp_cond_false (by exact E27_0) ?_
  refine wp_exit ?_
  refine then_exit ?_
  refine then_exit ?_
  refine inBlock_here ?_
  refine K12 _ _ ?_
  refine gs 4 (Amb S W) fun _ K60=>?_
  refine .al rfl zQ ?_
  refine .mz rfl 5 E3_2 ?_
  refine .cO rfl 0 Tryz.func199 (fun H h0 hz=>⟨_,ar2 (H.p 30 0 h0) (H.g 31 1),qInv _ (RatBlk.of hz) (VP.any _ (H.was _ [] (VP.at F1 L1))) (by first | omega | exact nz_2 p1 c23 x_x | exact sgn_no x_x | exact sgn_no c23) (by first | omega | exact nz_2 p1 c23 x_x | exact sgn_no x_x | exact sgn_no c23)⟩) ?_
  refine .mo rfl 2 ?_
  refine .dk (fun u=>.agg #[pt b1,x2,x3,pt b4]::u1 0::u1 1::u2 6::u2 7::u3 2::U::u24 2::u 3::u2 3::sq u2 0 3 (u2 4::u2 5::u3 0::u3 1::sq u4 0 4 (.int .i64 2::u27 0::u24 0::u24 1::sq u25 0 3 (U::.int .i64 2::sq u 0 3 (us 13))))) K60 bel fun u28 w28 D bel=>?_
  obtain ⟨b61,E28_3,A61,F61⟩:=D.ow 3
  have N7_61:=D.n1 0 (lt_of B7) ((D.a 3 rfl).1.symm.trans E28_3)
  replace B6:=D.k B6
  replace B7:=D.k B7
  replace F1:=D.o L1 F1
  replace F4:=D.o L4 F4
  replace F_x2:=D.gr (RatN c.b.re) F_x2
  replace F_x3:=D.gr (RatN c.b.im) F_x3
  have L61:Amb S W b61:=.inr A61
  clear D
  refine gd1 14 (Amb S W) 13 B7 fun _ K62=>?_
  refine .fz rfl 1 0 E1_0 ?_
  refine .e rfl (V:=pt b1) (fun H=>x_ldc (H.g 33 0) (H.b1 B6 (Ne.symm N6_7))) ?_
  refine .mz rfl 8 E28_3 ?_
  refine .cR rfl [] Tryz.func237 (fun H=>⟨_,ar2 (H.g 34 1) (H.g 35 2),eMul _ _ (RatP.n (H.was _ [] (VP.at F1 L1))) (RatP.n (H.was _ [] (VP.at F61 L61))) (by first | omega | exact nz_2 p1 c23 x_x | exact sgn_no x_x | exact sgn_no c23)⟩) ?_
  refine .fz rfl 1 1 E1_0 ?_
  refine .e rfl (V:=.agg #[x2,x3]) (fun H=>x_ldp (H.g 37 4) (H.b1 B6 (Ne.symm N6_7))) ?_
  refine .mz rfl 8 E28_3 ?_
  refine .cR rfl [] Tryz.func200 (fun H=>⟨_,ar2 (H.g 38 5) (H.g 39 6),eScale _ _ (NumP.mk (H.was _ [] F_x2) (H.was _ [] F_x3)) (RatP.n (H.was _ [] (VP.at F61 L61))) (by first | omega | exact nz_2 p1 c23 x_x | exact sgn_no x_x | exact sgn_no c23)⟩) ?_
  refine .fz rfl 1 3 E1_0 ?_
  refine .e rfl (V:=pt b4) (fun H=>x_ldc (H.g 41 8) (H.b1 B6 (Ne.symm N6_7))) ?_
  refine .mz rfl 8 E28_3 ?_
  refine .cR rfl [] Tryz.func237 (fun H=>⟨_,ar2 (H.g 42 9) (H.g 43 10),eMul _ _ (RatP.n (H.was _ [] (VP.at F4 L4))) (RatP.n (H.was _ [] (VP.at F61 L61))) (by first | omega | exact nz_2 p1 c23 x_x | exact sgn_no x_x | exact sgn_no c23)⟩) ?_
  refine Go2.fn (i:=12) rfl (G0 rfl) (SP.fnL 12 [3,7,11] (fun u=>.agg #[(u 3).v,(u 7).v.cells.getD 0 undef,(u 7).v.cells.getD 1 undef,(u 11).v]) (by intro u u' h; simp [h 3 (by simp),h 7 (by simp),h 11 (by simp)])) (fun u μ ρ H=>⟨_,by have e36:=H.r 36 3; have e40:=H.r 40 7; have e44:=H.r 44 11; obtain ⟨x1_7,x2_7,h1_7,h2_7,h3_7⟩:=(H.a 7 rfl); obtain ⟨x3,h3⟩:=RatP.isPtr (H.a 3 rfl); obtain ⟨x11,h11⟩:=RatP.isPtr (H.a 11 rfl); clear H; go_simp,SP.fnL_upd (by decide)⟩) ?_
  refine Go2.storeOld (i:=13) 0 b7 rfl rfl rfl ⟨_,_,_,B7,rfl⟩ (SP.old 0 b7 [3,7,11] (fun u=>#[(u 3).v,((u 7).v.cells.getD 0 undef),((u 7).v.cells.getD 1 undef),(u 11).v]) 203 (by intro u u' h; simp [h 3 (by simp),h 7 (by simp),h 11 (by simp)]) (lt_of B7) (by intro y k hy; match y,hy with | 0,hy=>rfl)) (fun u μ ρ H=>?_) ?_
  · have e2:=H.z 2 E1_1; have e45:=H.e 45 12 (by kernel_rfl) (H.a 12 rfl); have o3:=VP1.rat (H.a 3 rfl); have op7_0:((u 7).v.cells[0]?.getD undef).oneCell' = true:=(by obtain ⟨x1,x2,h1,h2,h3⟩:=(H.a 7 rfl); rw [h1]; exact VP1.ratn h2); have op7_1:((u 7).v.cells[1]?.getD undef).oneCell' = true:=(by obtain ⟨x1,x2,h1,h2,h3⟩:=(H.a 7 rfl); rw [h1]; exact VP1.ratn h3); have o11:=VP1.rat (H.a 11 rfl); have hb:=H.blkOld B7 0 13 rfl (.inl rfl)
    refine ⟨μ.setRow b7 #[(u 3).v,((u 7).v.cells.getD 0 undef),((u 7).v.cells.getD 1 undef),(u 11).v],ex_store_row 203 _ _ rfl e2 e45 hb (by kernel_rfl) rfl (by simp [o3,op7_0,ptr1,op7_1,o11] <;> rfl),fun g=>?_,setRow_only _ _ _⟩
    show (World.setRow _ _ _).heap[b7]? = _
    rw [setRow_at hb]; try simp [upd]
  refine .d1 (fun u=>.agg #[pt b1,x2,x3,pt b4]::u1 0::u1 1::u2 6::u2 7::u3 2::U::u24 2::u28 3::u2 3::sq u2 0 3 (u2 4::u2 5::u3 0::u3 1::sq u4 0 4 (.int .i64 2::u27 0::u24 0::u24 1::sq u25 0 3 (U::.int .i64 2::sq u28 0 3 (sq u 0 13 []))))) K62 bel A7 fun u29 w29 D bel=>?_
  obtain ⟨b63,E29_3,L63,F63⟩:=RatP.elim (D.rr 3)
  obtain ⟨x64,x65,E29_7,F_x64,F_x65⟩:=(D.rr 7)
  obtain ⟨b66,E29_11,L66,F66⟩:=RatP.elim (D.rr 11)
  replace B7:w29.heap[b7]? = _:=(D.a 13 rfl)
  simp only [Value.cells,E29_3,E29_7,E29_11] at B7
  clear D
  refine wp_ret ?_
  refine ret_ok rfl (by exact results_row rfl (by exact E1_1) B7 Tryz.underlying203 rfl (by kernel_rfl)) ⟨_,rfl,?_,bel⟩
  exact ring_eq (nrm_0 c23) (RingP.mk (VP.at F63 L63) F_x64 F_x65 (VP.at F66 L66))
theorem rgSame {v0:Value} {v1:Value} (c:Ci) (d:Ci) (t0:(RingP c).p S v0 W) (t1:(RingP d).p S v1 W) (p0:ht c.a + ht c.b.re + ht c.b.im + ht c.c + (ht d.a + ht d.b.re + ht d.b.im + ht d.c) ≤ 1073741824) :
  Calls Tryz.prog 241 #[v0,v1] W (RetV (.bool (decide (c = d))) W):=by
 obtain ⟨b1,x2,x3,b4,rfl,L1,L4,F1,F_x2,F_x3,F4⟩:=RingP.elim t0
 replace L1:Amb S W b1:=.inl L1
 replace F_x2:(RatN c.b.re).p (Amb S W) x2 W:=(RatN c.b.re).mono (fun _ _ h=>.inl h) F_x2
 replace F_x3:(RatN c.b.im).p (Amb S W) x3 W:=(RatN c.b.im).mono (fun _ _ h=>.inl h) F_x3
 replace L4:Amb S W b4:=.inl L4
 obtain ⟨b5,x6,x7,b8,rfl,L5,L8,F5,F_x6,F_x7,F8⟩:=RingP.elim t1
 replace L5:Amb S W b5:=.inl L5
 replace F_x6:(RatN d.b.re).p (Amb S W) x6 W:=(RatN d.b.re).mono (fun _ _ h=>.inl h) F_x6
 replace F_x7:(RatN d.b.im).p (Amb S W) x7 W:=(RatN d.b.im).mono (fun _ _ h=>.inl h) F_x7
 replace L8:Amb S W b8:=.inl L8
 have bel:=b0 W
 go_enter Tryz.func241,Tryz.ntmps241
 refine gs 3 (Amb S W) fun _ K9=>?_
 refine .bx rfl (fun H=>H.v 0 (.agg #[pt b1,x2,x3,pt b4])) ?_
 refine .bx rfl (fun H=>H.v 1 (.agg #[pt b5,x6,x7,pt b8])) ?_
 refine .mc rfl ?_
 refine .dk (fun u=>.agg #[pt b1,x2,x3,pt b4]::.agg #[pt b5,x6,x7,pt b8]::sq u 0 3 (us 21)) K9 bel fun u1 w1 D bel=>?_
 obtain ⟨b10,E1_0,A10,B10⟩:=D.nw 0
 obtain ⟨b11,E1_1,A11,B11⟩:=D.nw 1
 have E1_2:=D.q 2
 replace F1:=D.o L1 F1
 replace F4:=D.o L4 F4
 replace F5:=D.o L5 F5
 replace F8:=D.o L8 F8
 replace F_x2:=D.gr (RatN c.b.re) F_x2
 replace F_x3:=D.gr (RatN c.b.im) F_x3
 replace F_x6:=D.gr (RatN d.b.re) F_x6
 replace F_x7:=D.gr (RatN d.b.im) F_x7
 clear D
 rcases Bool.eq_false_or_eq_true ((icmp (c.a.num * (d.a.den:Int)) (d.a.num * (c.a.den:Int))) == 0) with c13 | c13
 ·
  rcases Bool.eq_false_or_eq_true ((c.b.sub d.b).zero) with c14 | c14
  ·
   refine gs 22 (Amb S W) fun _ K12=>?_
   refine .fz rfl 2 0 E1_0 ?_
   refine .lc rfl 0 B10 ?_ (V:=pt b1)
   refine .fz rfl 3 0 E1_1 ?_
   refine .lc rfl 2 B11 ?_ (V:=pt b5)
   refine .cK rfl Tryz.func175 (fun H=>⟨_,ar2 (H.g 6 1) (H.g 8 3),qCmp _ _ (VP.any _ (H.was _ [] (VP.at F1 L1))) (VP.any _ (H.was _ [] (VP.at F5 L5))) (by omega)⟩) ?_
   refine .e rfl (V:=.bool true) (fun H=>x_cm (H.g 9 4) (H.c _) c13) ?_
   refine .mv rfl 5 ?_
   refine .fz rfl 2 1 E1_0 ?_ (hg:=gq 6 rfl)
   refine .lp rfl 7 (#[x2,x3]) B10 ?_ (hg:=gq 6 rfl)
   refine .fz rfl 3 1 E1_1 ?_ (hg:=gq 6 rfl)
   refine .lp rfl 9 (#[x6,x7]) B11 ?_ (hg:=gq 6 rfl)
   refine .cK rfl (V:=.bool true) Tryz.func179 (fun H=>⟨_,ar2 (H.g 13 8) (H.g 15 10),reV (congrArg Value.bool c14) (eSame _ _ (NumP.mk (VP.any _ (H.was _ [] F_x2)) (VP.any _ (H.was _ [] F_x3))) (NumP.mk (VP.any _ (H.was _ [] F_x6)) (VP.any _ (H.was _ [] F_x7))) (by omega))⟩) ?_ (hg:=gq 6 rfl)
   refine .e rfl (fun H=>x_pkT (H.g 11 6) (H.g 16 11)) ?_
   refine .mv rfl 12 ?_
   refine .fz rfl 2 3 E1_0 ?_ (hg:=gq 13 rfl)
   refine .lc rfl 14 B10 ?_ (V:=pt b4) (hg:=gq 13 rfl)
   refine .fz rfl 3 3 E1_1 ?_ (hg:=gq 13 rfl)
   refine .lc rfl 16 B11 ?_ (V:=pt b8) (hg:=gq 13 rfl)
   refine .cK rfl Tryz.func175 (fun H=>⟨_,ar2 (H.g 20 15) (H.g 22 17),qCmp _ _ (VP.any _ (H.was _ [] (VP.at F4 L4))) (VP.any _ (H.was _ [] (VP.at F8 L8))) (by omega)⟩) ?_ (hg:=gq 13 rfl)
   refine .e rfl (V:=.bool ((icmp (c.c.num * (d.c.den:Int)) (d.c.num * (c.c.den:Int))) == 0)) (fun H=>x_cmp (H.g 23 18) (H.c _)) ?_ (hg:=gq 13 rfl)
   refine .e rfl (fun H=>x_pkT (H.g 18 13) (H.g 24 19)) ?_
   refine .mv rfl 20 ?_
   refine .dk (fun u=>.agg #[pt b1,x2,x3,pt b4]::.agg #[pt b5,x6,x7,pt b8]::u1 0::u1 1::u 21::sq u 0 21 []) K12 bel fun u2 w2 D bel=>?_
   have E2_21:=D.q 21
   clear D
   exact wp_ret (rt rfl E2_21 (by rw [← sm_dec]; unfold Ci.sm; rw [c13,c14]; rfl) bel)
  ·
   refine gs 22 (Amb S W) fun _ K12=>?_
   refine .fz rfl 2 0 E1_0 ?_
   refine .lc rfl 0 B10 ?_ (V:=pt b1)
   refine .fz rfl 3 0 E1_1 ?_
   refine .lc rfl 2 B11 ?_ (V:=pt b5)
   refine .cK rfl Tryz.func175 (fun H=>⟨_,ar2 (H.g 6 1) (H.g 8 3),qCmp _ _ (VP.any _ (H.was _ [] (VP.at F1 L1))) (VP.any _ (H.was _ [] (VP.at F5 L5))) (by omega)⟩) ?_
   refine .e rfl (V:=.bool true) (fun H=>x_cm (H.g 9 4) (H.c _) c13) ?_
   refine .mv rfl 5 ?_
   refine .fz rfl 2 1 E1_0 ?_ (hg:=gq 6 rfl)
   refine .lp rfl 7 (#[x2,x3]) B10 ?_ (hg:=gq 6 rfl)
   refine .fz rfl 3 1 E1_1 ?_ (hg:=gq 6 rfl)
   refine .lp rfl 9 (#[x6,x7]) B11 ?_ (hg:=gq 6 rfl)
   refine .cK rfl (V:=.bool false) Tryz.func179 (fun H=>⟨_,ar2 (H.g 13 8) (H.g 15 10),reV (congrArg Value.bool c14) (eSame _ _ (NumP.mk (VP.any _ (H.was _ [] F_x2)) (VP.any _ (H.was _ [] F_x3))) (NumP.mk (VP.any _ (H.was _ [] F_x6)) (VP.any _ (H.was _ [] F_x7))) (by omega))⟩) ?_ (hg:=gq 6 rfl)
   refine .e rfl (fun H=>x_pkT (H.g 11 6) (H.g 16 11)) ?_
   refine .mv rfl 12 ?_
   refine .sk rfl 13 ?_
   refine .sk rfl 13 ?_
   refine .sk rfl 13 ?_
   refine .sk rfl 13 ?_
   refine .sk rfl 13 ?_
   refine .sk rfl 13 ?_
   refine .e rfl (fun H=>x_pkF (H.g 18 13) (H.c _)) ?_
   refine .mv rfl 20 ?_
   refine .dk (fun u=>.agg #[pt b1,x2,x3,pt b4]::.agg #[pt b5,x6,x7,pt b8]::u1 0::u1 1::u 21::sq u 0 21 []) K12 bel fun u2 w2 D bel=>?_
   have E2_21:=D.q 21
   clear D
   exact wp_ret (rt rfl E2_21 (by rw [← sm_dec]; unfold Ci.sm; rw [c13,c14]; rfl) bel)
 ·
  refine gs 22 (Amb S W) fun _ K12=>?_
  refine .fz rfl 2 0 E1_0 ?_
  refine .lc rfl 0 B10 ?_ (V:=pt b1)
  refine .fz rfl 3 0 E1_1 ?_
  refine .lc rfl 2 B11 ?_ (V:=pt b5)
  refine .cK rfl Tryz.func175 (fun H=>⟨_,ar2 (H.g 6 1) (H.g 8 3),qCmp _ _ (VP.any _ (H.was _ [] (VP.at F1 L1))) (VP.any _ (H.was _ [] (VP.at F5 L5))) (by omega)⟩) ?_
  refine .e rfl (V:=.bool false) (fun H=>x_cm (H.g 9 4) (H.c _) c13) ?_
  refine .mv rfl 5 ?_
  refine .sk rfl 6 ?_
  refine .sk rfl 6 ?_
  refine .sk rfl 6 ?_
  refine .sk rfl 6 ?_
  refine .sk rfl 6 ?_
  refine .e rfl (fun H=>x_pkF (H.g 11 6) (H.c _)) ?_
  refine .mv rfl 12 ?_
  refine .sk rfl 13 ?_
  refine .sk rfl 13 ?_
  refine .sk rfl 13 ?_
  refine .sk rfl 13 ?_
  refine .sk rfl 13 ?_
  refine .sk rfl 13 ?_
  refine .e rfl (fun H=>x_pkF (H.g 18 13) (H.c _)) ?_
  refine .mv rfl 20 ?_
  refine .dk (fun u=>.agg #[pt b1,x2,x3,pt b4]::.agg #[pt b5,x6,x7,pt b8]::u1 0::u1 1::u 21::sq u 0 21 []) K12 bel fun u2 w2 D bel=>?_
  have E2_21:=D.q 21
  clear D
  exact wp_ret (rt rfl E2_21 (by rw [← sm_dec]; unfold Ci.sm; rw [c13]; rfl) bel)
end Go.Proofs.YtcpjdjnaipbieaaGreat
