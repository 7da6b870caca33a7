import Derived.Test.YtcpjdjnaipbieaaGreatP05
import Derived.ProofKit
import Derived.OpenShut
import Derived.JoinedCond
import Derived.Deep.Slices
import Derived.Deep.Strs
set_option linter.unusedVariables false
set_option linter.unusedSimpArgs false
namespace Go.Proofs.YtcpjdjnaipbieaaGreat
open Go.RowKit Rgn
set_option maxHeartbeats 4000000
set_option maxRecDepth 100000
variable {S:Nat→Prop} {W:World}
theorem dsBy {v0:Value} {v1:Value} (c:Ci) (d:Ci) (t0:(RingP c).p S v0 W) (t1:(RingP d).p S v1 W) (p0:ht c.a+ht c.b.re+ht c.b.im+ht c.c+(ht d.a+ht d.b.re+ht d.b.im+ht d.c)≤67108864) :
  Calls Tryz.prog 214 #[v0,v1] W (Ret (RatP (c.dot d)) S W):=by
 obtain ⟨b1,x2,x3,b4,rfl,L1,L4,F1,F_x2,F_x3,F4⟩:=RingP.elim t0
 replace L1:Amb S W b1:=.inl L1
 replace F_x2:(RatN c.b.re).p (Amb S W) x2 W:=(RatN c.b.re).mono (fun _ _ h=>.inl h) F_x2
 replace F_x3:(RatN c.b.im).p (Amb S W) x3 W:=(RatN c.b.im).mono (fun _ _ h=>.inl h) F_x3
 replace L4:Amb S W b4:=.inl L4
 obtain ⟨b5,x6,x7,b8,rfl,L5,L8,F5,F_x6,F_x7,F8⟩:=RingP.elim t1
 replace L5:Amb S W b5:=.inl L5
 replace F_x6:(RatN d.b.re).p (Amb S W) x6 W:=(RatN d.b.re).mono (fun _ _ h=>.inl h) F_x6
 replace F_x7:(RatN d.b.im).p (Amb S W) x7 W:=(RatN d.b.im).mono (fun _ _ h=>.inl h) F_x7
 replace L8:Amb S W b8:=.inl L8
 have z2:ht (Rat.divInt (1:Int) (2:Int))=3:=by decide
 have h1:=ht_mul c.a d.c
 have h2:=ht_mul d.a c.c
 have h3:=hc_conj d.b
 have h4:=hc_mul c.b d.b.conj
 have z0:=ht_zero
 have h5:=ht_add 0 (c.a*d.c)
 have h6:=ht_add (0+c.a*d.c) (d.a*c.c)
 have h7:=ht_mul (0+c.a*d.c+d.a*c.c) (Rat.divInt (1:Int) (2:Int))
 have bel:=b0 W
 go_enter Tryz.func214,Tryz.ntmps214
 refine gs 3 (Amb S W) fun _ K9=>?_
 refine .bx rfl (fun H=>H.v 0 (.agg #[pt b1,x2,x3,pt b4])) ?_
 refine .bx rfl (fun H=>H.v 1 (.agg #[pt b5,x6,x7,pt b8])) ?_
 refine .mc rfl ?_
 refine .dk (fun u=>.agg #[pt b1,x2,x3,pt b4]::.agg #[pt b5,x6,x7,pt b8]::sq u 0 3 (us 31)) K9 bel fun u1 w1 D bel=>?_
 obtain ⟨b10,E1_0,A10,B10⟩:=D.nw 0
 obtain ⟨b11,E1_1,A11,B11⟩:=D.nw 1
 have E1_2:=D.q 2
 replace F1:=D.o L1 F1
 replace F4:=D.o L4 F4
 replace F5:=D.o L5 F5
 replace F8:=D.o L8 F8
 replace F_x2:=D.gr (RatN c.b.re) F_x2
 replace F_x3:=D.gr (RatN c.b.im) F_x3
 replace F_x6:=D.gr (RatN d.b.re) F_x6
 replace F_x7:=D.gr (RatN d.b.im) F_x7
 clear D
 refine gd 13 (Amb S W) fun _ K12=>?_
 refine .fz rfl 2 0 E1_0 ?_
 refine .lc rfl 0 B10 ?_ (V:=pt b1)
 refine .fz rfl 3 3 E1_1 ?_
 refine .lc rfl 2 B11 ?_ (V:=pt b8)
 refine .cR rfl [] Tryz.func237 (fun H=>⟨_,ar2 (H.g 9 1) (H.g 11 3),eMul _ _ (RatP.n (H.was _ [] (VP.at F1 L1))) (RatP.n (H.was _ [] (VP.at F8 L8))) (by omega)⟩) ?_
 refine .fz rfl 3 0 E1_1 ?_
 refine .lc rfl 5 B11 ?_ (V:=pt b5)
 refine .fz rfl 2 3 E1_0 ?_
 refine .lc rfl 7 B10 ?_ (V:=pt b4)
 refine .cR rfl [] Tryz.func237 (fun H=>⟨_,ar2 (H.g 14 6) (H.g 16 8),eMul _ _ (RatP.n (H.was _ [] (VP.at F5 L5))) (RatP.n (H.was _ [] (VP.at F4 L4))) (by omega)⟩) ?_
 refine .br2 rfl [4,9] (fun H=>⟨_,_,(H.r 12 4),(H.r 17 9),(SV.sub [4,9] (H.a 4 rfl) rfl),(SV.sub [4,9] (H.a 9 rfl) rfl)⟩) ?_
 refine .cR rfl [4,9,10] Tryz.func227 (fun H=>⟨_,ar1 (H.r 18 10),ofF H.here.base.grow.size (eSum2 _ _ (SV.sub [4,9,10] (H.a 10 rfl) rfl) (by omega))⟩) ?_
 refine .mn rfl 11 [4,9,10,11] ?_
 refine .dk (fun u=>.agg #[pt b1,x2,x3,pt b4]::.agg #[pt b5,x6,x7,pt b8]::sq u1 0 3 (u 12::U::U::sq u 0 12 (us 16))) K12 bel fun u2 w2 D bel=>?_
 obtain ⟨b13,E2_12,A13,F13⟩:=RatNw.elim (D.rr 12)
 have N10_13:=Nat.ne_of_lt (Nat.lt_of_lt_of_le (lt_of B10) A13)
 have N11_13:=Nat.ne_of_lt (Nat.lt_of_lt_of_le (lt_of B11) A13)
 have N1_13:=Nat.ne_of_lt (Nat.lt_of_lt_of_le (RatP.lt F1) A13)
 have N4_13:=Nat.ne_of_lt (Nat.lt_of_lt_of_le (RatP.lt F4) A13)
 have N5_13:=Nat.ne_of_lt (Nat.lt_of_lt_of_le (RatP.lt F5) A13)
 have N8_13:=Nat.ne_of_lt (Nat.lt_of_lt_of_le (RatP.lt F8) A13)
 replace A13:=le2 D.le A13
 have L13:Amb S W b13:=.inr A13
 replace B10:=D.k B10
 replace B11:=D.k B11
 replace F1:=D.o L1 F1
 replace F4:=D.o L4 F4
 replace F5:=D.o L5 F5
 replace F8:=D.o L8 F8
 replace F_x2:=D.gr (RatN c.b.re) F_x2
 replace F_x3:=D.gr (RatN c.b.im) F_x3
 replace F_x6:=D.gr (RatN d.b.re) F_x6
 replace F_x7:=D.gr (RatN d.b.im) F_x7
 clear D
 refine gd 12 (Amb S W) fun _ K14=>?_
 refine .fz rfl 2 1 E1_0 ?_
 refine .lp rfl 0 (#[x2,x3]) B10 ?_
 refine .fz rfl 3 1 E1_1 ?_
 refine .lp rfl 2 (#[x6,x7]) B11 ?_
 refine .cR rfl [] Tryz.func136 (fun H=>⟨_,ar1 (H.g 24 3),eConj _ (NumP.mk (H.was _ [] F_x6) (H.was _ [] F_x7)) (by omega)⟩) ?_
 refine .cR rfl [4] Tryz.func137 (fun H=>⟨_,ar2 (H.g 22 1) (H.r 25 4),eNMul _ _ (NumP.mk (H.was _ [4] F_x2) (H.was _ [4] F_x3)) (SV.sub [4] (H.a 4 rfl) rfl) (by omega)⟩) ?_
 refine .cR rfl [4,5] Tryz.func139 (fun H=>⟨_,ar1 (H.r 26 5),eParts _ (SV.sub [4,5] (H.a 5 rfl) rfl)⟩) ?_
 refine .mn rfl 6 [4,5,6] ?_
 refine Go2.fn (i:=8) rfl (G0 rfl) (.val 8 [4,5,6,7] (RatP ((c.b.mul d.b.conj).re))) (fun u μ ρ H=>by have e20:=H.r 20 7;have h0:=(H.a 7 rfl);obtain ⟨x0,x1,h1,h2⟩:=h0;rw [h1] at e20;exact ⟨x0,by clear H;go_simp,SP.tupKeep (by decide) (by decide) h2.1⟩) ?_
 refine Go2.fn (i:=9) rfl (G0 rfl) (.val 9 [4,5,6,7] (RatP ((c.b.mul d.b.conj).im))) (fun u μ ρ H=>by have e20:=H.r 20 7;have h0:=(H.a 7 rfl);obtain ⟨x0,x1,h1,h2⟩:=h0;rw [h1] at e20;exact ⟨x1,by clear H;go_simp,SP.tupKeep (by decide) (by decide) h2.2⟩) ?_
 refine .mn rfl 8 [4,5,6,7,8] ?_
 refine .mn rfl 9 [4,5,6,7,9] ?_
 refine .dk (fun u=>.agg #[pt b1,x2,x3,pt b4]::.agg #[pt b5,x6,x7,pt b8]::sq u1 0 3 (u2 12::u 10::u 11::sq u2 0 12 (u 7::sq u 0 7 (u 8::u 9::us 6)))) K14 bel fun u3 w3 D bel=>?_
 obtain ⟨b15,E3_10,L15,F15⟩:=RatP.elim (D.rr 10)
 replace F13:=D.o L13 F13
 clear D
 refine wp_seq_k fun _ K16=>?_
 refine go2_seqT 5 2 rfl (Amb S W) [] [] (Olds.nil _) (by kernel_rfl) ?_
 refine .mz rfl 5 E2_12 ?_
 refine .mz rfl 5 E2_12 ?_
 refine .cR rfl [] Tryz.func132 (fun H=>⟨_,ar2 (H.c (.int .i64 1)) (H.c (.int .i64 2)),qNewRat _ _ (by omega) (by omega) (by omega) (by omega) (by omega)⟩) ?_
 refine .cR rfl [2] Tryz.func237 (fun H=>⟨_,ar2 (H.g 31 1) (H.r 32 2),eMul _ _ (RatP.n (H.was _ [2] (VP.at F13 L13))) (RatP.n (SV.sub [2] (H.a 2 rfl) rfl)) (by omega)⟩) ?_
 refine .mz rfl 6 E3_10 ?_
 refine .dT (fun u=>.agg #[pt b1,x2,x3,pt b4]::.agg #[pt b5,x6,x7,pt b8]::u1 0::u1 1::u 6::u2 12::u3 10::u3 11::sq u2 0 12 (u3 7::sq u3 0 7 (u3 8::u3 9::sq u 0 6 []))) bel.size _ rfl fun u4 w4 D=>?_
 obtain ⟨b17,E4_3,L17,F17⟩:=RatP.elim (D.rr 3)
 have E4_0:=D.q 0
 have E4_4:=D.q 4
 replace F13:=D.o L13 F13
 replace F15:=D.o L15 F15
 replace bel:=D.d.base.bel0 bel bel.size
 clear D
 refine wpT_callO (args:=#[pt b13,pt b17,pt b15]) rfl (ex_call rfl rfl Tryz.func192 (by kernel_rfl) (by kernel_rfl) (by simp only [List.map_toArray,List.map_cons,List.map_nil];show #[(u4 0).v,(u4 3).v,(u4 4).v]=#[pt b13,pt b17,pt b15];rw [E4_0,E4_3,E4_4])) (qSub (z:=b13) (x:=((0:Rat)+(c.a*d.c)+(d.a*c.c))*(Rat.divInt (1:Int) (2:Int))) (y:=(c.b.mul d.b.conj).re) (RatP.blk F13) (VP.any _ F17) (VP.any _ F15) (by omega)) fun w18 fw18 ow18=>?_
 have sw18:Soft w4 b13∨Local w4 b13:=.inl (RatP.soft F13)
 have F13:=fw18
 have L13:Amb S W b13:=.inr A13
 replace bel:=bel.trans (only_below' ow18 A13 bel.size)
 refine wpT_val rfl (ex_assign rfl) ?_
 refine wpList_nil ?_
 show _
 refine K16 _ _ ?_
 refine wp_ret ?_
 refine ret_ok rfl (by exact results_tmp' rfl rfl) ⟨_,rfl,?_,bel⟩
 exact rat_eq (dot_eq c d) (VP.at F13 L13)
theorem dsPlus {v0:Value} {v1:Value} (c:Ci) (d:Ci) (t0:(RingP c).p S v0 W) (t1:(RingP d).p S v1 W) (p0:ht c.a+ht c.b.re+ht c.b.im+ht c.c+(ht d.a+ht d.b.re+ht d.b.im+ht d.c)≤67108864) :
  Calls Tryz.prog 114 #[v0,v1] W (Ret (RingP (c.plus d)) S W):=by
 obtain ⟨b1,x2,x3,b4,rfl,L1,L4,F1,F_x2,F_x3,F4⟩:=RingP.elim t0
 replace L1:Amb S W b1:=.inl L1
 replace F_x2:(RatN c.b.re).p (Amb S W) x2 W:=(RatN c.b.re).mono (fun _ _ h=>.inl h) F_x2
 replace F_x3:(RatN c.b.im).p (Amb S W) x3 W:=(RatN c.b.im).mono (fun _ _ h=>.inl h) F_x3
 replace L4:Amb S W b4:=.inl L4
 obtain ⟨b5,x6,x7,b8,rfl,L5,L8,F5,F_x6,F_x7,F8⟩:=RingP.elim t1
 replace L5:Amb S W b5:=.inl L5
 replace F_x6:(RatN d.b.re).p (Amb S W) x6 W:=(RatN d.b.re).mono (fun _ _ h=>.inl h) F_x6
 replace F_x7:(RatN d.b.im).p (Amb S W) x7 W:=(RatN d.b.im).mono (fun _ _ h=>.inl h) F_x7
 replace L8:Amb S W b8:=.inl L8
 have bel:=b0 W
 go_enter Tryz.func114,Tryz.ntmps114
 refine gs 3 (Amb S W) fun _ K9=>?_
 refine .bx rfl (fun H=>H.v 0 (.agg #[pt b1,x2,x3,pt b4])) ?_
 refine .bx rfl (fun H=>H.v 1 (.agg #[pt b5,x6,x7,pt b8])) ?_
 refine .al rfl (#[.pointer none,.pointer none,.pointer none,.pointer none]) ?_
 refine .dk (fun u=>.agg #[pt b1,x2,x3,pt b4]::.agg #[pt b5,x6,x7,pt b8]::sq u 0 3 (us 18)) K9 bel fun u1 w1 D bel=>?_
 obtain ⟨b10,E1_0,A10,B10⟩:=D.nw 0
 obtain ⟨b11,E1_1,A11,B11⟩:=D.nw 1
 obtain ⟨b12,E1_2,A12,B12⟩:=D.nw 2
 have N1_12:=D.n1 2 (RatP.lt F1) E1_2
 have N4_12:=D.n1 2 (RatP.lt F4) E1_2
 have N5_12:=D.n1 2 (RatP.lt F5) E1_2
 have N8_12:=D.n1 2 (RatP.lt F8) E1_2
 have N10_12:=D.n2 0 2 E1_0 E1_2
 have N11_12:=D.n2 1 2 E1_1 E1_2
 replace F1:=D.o L1 F1
 replace F4:=D.o L4 F4
 replace F5:=D.o L5 F5
 replace F8:=D.o L8 F8
 replace F_x2:=D.gr (RatN c.b.re) F_x2
 replace F_x3:=D.gr (RatN c.b.im) F_x3
 replace F_x6:=D.gr (RatN d.b.re) F_x6
 replace F_x7:=D.gr (RatN d.b.im) F_x7
 clear D
 refine gd1 19 (Amb S W) 18 B12 fun _ K13=>?_
 refine .fz rfl 2 0 E1_0 ?_
 refine .e rfl (V:=pt b1) (fun H=>x_ldc (H.g 5 0) (H.b1 B10 (Ne.symm N10_12))) ?_
 refine .fz rfl 3 0 E1_1 ?_
 refine .e rfl (V:=pt b5) (fun H=>x_ldc (H.g 7 2) (H.b1 B11 (Ne.symm N11_12))) ?_
 refine .br2 rfl [] (fun H=>⟨_,_,(H.g 6 1),(H.g 8 3),(H.was _ [] (VP.at F1 L1)),(H.was _ [] (VP.at F5 L5))⟩) ?_
 refine .cR rfl [4] Tryz.func227 (fun H=>⟨_,ar1 (H.r 9 4),ofZ (eSum2 _ _ (SV.sub [4] (H.a 4 rfl) rfl) (by omega))⟩) ?_
 refine .fz rfl 2 1 E1_0 ?_
 refine .e rfl (V:=.agg #[x2,x3]) (fun H=>x_ldp (H.g 11 6) (H.b1 B10 (Ne.symm N10_12))) ?_
 refine .fz rfl 3 1 E1_1 ?_
 refine .e rfl (V:=.agg #[x6,x7]) (fun H=>x_ldp (H.g 13 8) (H.b1 B11 (Ne.symm N11_12))) ?_
 refine .cR rfl [] Tryz.func177 (fun H=>⟨_,ar2 (H.g 12 7) (H.g 14 9),eAdd _ _ (NumP.mk (H.was _ [] F_x2) (H.was _ [] F_x3)) (NumP.mk (H.was _ [] F_x6) (H.was _ [] F_x7)) (by omega)⟩) ?_
 refine .fz rfl 2 3 E1_0 ?_
 refine .e rfl (V:=pt b4) (fun H=>x_ldc (H.g 16 11) (H.b1 B10 (Ne.symm N10_12))) ?_
 refine .fz rfl 3 3 E1_1 ?_
 refine .e rfl (V:=pt b8) (fun H=>x_ldc (H.g 18 13) (H.b1 B11 (Ne.symm N11_12))) ?_
 refine .br2 rfl [] (fun H=>⟨_,_,(H.g 17 12),(H.g 19 14),(H.was _ [] (VP.at F4 L4)),(H.was _ [] (VP.at F8 L8))⟩) ?_
 refine .cR rfl [15] Tryz.func227 (fun H=>⟨_,ar1 (H.r 20 15),ofZ (eSum2 _ _ (SV.sub [15] (H.a 15 rfl) rfl) (by omega))⟩) ?_
 refine Go2.fn (i:=17) rfl (G0 rfl) (SP.fnL 17 [5,10,16] (fun u=>.agg #[(u 5).v,(u 10).v.cells.getD 0 undef,(u 10).v.cells.getD 1 undef,(u 16).v]) (by intro u u' h;simp [h 5 (by simp),h 10 (by simp),h 16 (by simp)])) (fun u μ ρ H=>⟨_,by have e10:=H.r 10 5;have e15:=H.r 15 10;have e21:=H.r 21 16;obtain ⟨x1_10,x2_10,h1_10,h2_10,h3_10⟩:=(H.a 10 rfl);obtain ⟨x5,h5⟩:=RatP.isPtr (H.a 5 rfl);obtain ⟨x16,h16⟩:=RatP.isPtr (H.a 16 rfl);clear H;go_simp,SP.fnL_upd (by decide)⟩) ?_
 refine Go2.storeOld (i:=18) 0 b12 rfl rfl rfl ⟨_,_,_,B12,rfl⟩ (SP.old 0 b12 [5,10,16] (fun u=>#[(u 5).v,((u 10).v.cells.getD 0 undef),((u 10).v.cells.getD 1 undef),(u 16).v]) 180 (by intro u u' h;simp [h 5 (by simp),h 10 (by simp),h 16 (by simp)]) (lt_of B12) (by intro y k hy;match y,hy with|0,hy=>rfl)) (fun u μ ρ H=>?_) ?_
 · have e4:=H.z 4 E1_2;have e22:=H.e 22 17 (by kernel_rfl) (H.a 17 rfl);have o5:=VP1.rat (H.a 5 rfl);have op10_0:((u 10).v.cells[0]?.getD undef).oneCell'=true:=(by obtain ⟨x1,x2,h1,h2,h3⟩:=(H.a 10 rfl);rw [h1];exact VP1.ratn h2);have op10_1:((u 10).v.cells[1]?.getD undef).oneCell'=true:=(by obtain ⟨x1,x2,h1,h2,h3⟩:=(H.a 10 rfl);rw [h1];exact VP1.ratn h3);have o16:=VP1.rat (H.a 16 rfl);have hb:=H.blkOld B12 0 18 rfl (.inl rfl)
   refine ⟨μ.setRow b12 #[(u 5).v,((u 10).v.cells.getD 0 undef),((u 10).v.cells.getD 1 undef),(u 16).v],ex_store_row 180 _ _ rfl e4 e22 hb (by kernel_rfl) rfl (by simp [o5,op10_0,ptr1,op10_1,o16]<;>rfl),fun g=>?_,setRow_only _ _ _⟩
   show (World.setRow _ _ _).heap[b12]? = _
   rw [setRow_at hb];try simp [upd]
 refine .d1 (fun u=>.agg #[pt b1,x2,x3,pt b4]::.agg #[pt b5,x6,x7,pt b8]::sq u1 0 3 (sq u 0 18 [])) K13 bel A12 fun u2 w2 D bel=>?_
 obtain ⟨b14,E2_5,L14,F14⟩:=RatP.elim (D.rr 5)
 obtain ⟨x15,x16,E2_10,F_x15,F_x16⟩:=(D.rr 10)
 obtain ⟨b17,E2_16,L17,F17⟩:=RatP.elim (D.rr 16)
 replace B12:w2.heap[b12]? = _:=(D.a 18 rfl)
 simp only [Value.cells,E2_5,E2_10,E2_16] at B12
 clear D
 refine wp_ret ?_
 refine ret_ok rfl (by exact results_row rfl (by exact E1_2) B12 Tryz.underlying180 rfl (by kernel_rfl)) ⟨_,rfl,?_,bel⟩
 exact ring_eq (plus_eq c d) (RingP.mk (VP.at F14 L14) F_x15 F_x16 (VP.at F17 L17))
theorem dsTimes {v0:Value} {v1:Value} (c:Ci) (x:Rat) (t0:(RingP c).p S v0 W) (t1:(RatP x).p S v1 W) (p0:ht c.a+ht c.b.re+ht c.b.im+ht c.c+ht x≤67108864) :
  Calls Tryz.prog 204 #[v0,v1] W (Ret (RingP (c.times x)) S W):=by
 obtain ⟨b1,x2,x3,b4,rfl,L1,L4,F1,F_x2,F_x3,F4⟩:=RingP.elim t0
 replace L1:Amb S W b1:=.inl L1
 replace F_x2:(RatN c.b.re).p (Amb S W) x2 W:=(RatN c.b.re).mono (fun _ _ h=>.inl h) F_x2
 replace F_x3:(RatN c.b.im).p (Amb S W) x3 W:=(RatN c.b.im).mono (fun _ _ h=>.inl h) F_x3
 replace L4:Amb S W b4:=.inl L4
 obtain ⟨b5,rfl,L5,F5⟩:=RatP.elim t1
 replace L5:Amb S W b5:=.inl L5
 have bel:=b0 W
 go_enter Tryz.func204,Tryz.ntmps204
 refine gs 2 (Amb S W) fun _ K6=>?_
 refine .bx rfl (fun H=>H.v 0 (.agg #[pt b1,x2,x3,pt b4])) ?_
 refine .al rfl (#[.pointer none,.pointer none,.pointer none,.pointer none]) ?_
 refine .dk (fun u=>.agg #[pt b1,x2,x3,pt b4]::pt b5::u 0::U::u 1::us 13) K6 bel fun u1 w1 D bel=>?_
 obtain ⟨b7,E1_0,A7,B7⟩:=D.nw 0
 obtain ⟨b8,E1_1,A8,B8⟩:=D.nw 1
 have N1_8:=D.n1 1 (RatP.lt F1) E1_1
 have N4_8:=D.n1 1 (RatP.lt F4) E1_1
 have N5_8:=D.n1 1 (RatP.lt F5) E1_1
 have N7_8:=D.n2 0 1 E1_0 E1_1
 replace F1:=D.o L1 F1
 replace F4:=D.o L4 F4
 replace F5:=D.o L5 F5
 replace F_x2:=D.gr (RatN c.b.re) F_x2
 replace F_x3:=D.gr (RatN c.b.im) F_x3
 clear D
 refine gd1 14 (Amb S W) 13 B8 fun _ K9=>?_
 refine .fz rfl 2 0 E1_0 ?_
 refine .e rfl (V:=pt b1) (fun H=>x_ldc (H.g 5 0) (H.b1 B7 (Ne.symm N7_8))) ?_
 refine .mz rfl 1 (V:=pt b5) rfl ?_
 refine .cR rfl [] Tryz.func237 (fun H=>⟨_,ar2 (H.g 6 1) (H.g 7 2),eMul _ _ (RatP.n (H.was _ [] (VP.at F1 L1))) (RatP.n (H.was _ [] (VP.at F5 L5))) (by omega)⟩) ?_
 refine .fz rfl 2 1 E1_0 ?_
 refine .e rfl (V:=.agg #[x2,x3]) (fun H=>x_ldp (H.g 9 4) (H.b1 B7 (Ne.symm N7_8))) ?_
 refine .mz rfl 1 (V:=pt b5) rfl ?_
 refine .cR rfl [] Tryz.func200 (fun H=>⟨_,ar2 (H.g 10 5) (H.g 11 6),eScale _ _ (NumP.mk (H.was _ [] F_x2) (H.was _ [] F_x3)) (RatP.n (H.was _ [] (VP.at F5 L5))) (by omega)⟩) ?_
 refine .fz rfl 2 3 E1_0 ?_
 refine .e rfl (V:=pt b4) (fun H=>x_ldc (H.g 13 8) (H.b1 B7 (Ne.symm N7_8))) ?_
 refine .mz rfl 1 (V:=pt b5) rfl ?_
 refine .cR rfl [] Tryz.func237 (fun H=>⟨_,ar2 (H.g 14 9) (H.g 15 10),eMul _ _ (RatP.n (H.was _ [] (VP.at F4 L4))) (RatP.n (H.was _ [] (VP.at F5 L5))) (by omega)⟩) ?_
 refine Go2.fn (i:=12) rfl (G0 rfl) (SP.fnL 12 [3,7,11] (fun u=>.agg #[(u 3).v,(u 7).v.cells.getD 0 undef,(u 7).v.cells.getD 1 undef,(u 11).v]) (by intro u u' h;simp [h 3 (by simp),h 7 (by simp),h 11 (by simp)])) (fun u μ ρ H=>⟨_,by have e8:=H.r 8 3;have e12:=H.r 12 7;have e16:=H.r 16 11;obtain ⟨x1_7,x2_7,h1_7,h2_7,h3_7⟩:=(H.a 7 rfl);obtain ⟨x3,h3⟩:=RatP.isPtr (H.a 3 rfl);obtain ⟨x11,h11⟩:=RatP.isPtr (H.a 11 rfl);clear H;go_simp,SP.fnL_upd (by decide)⟩) ?_
 refine Go2.storeOld (i:=13) 0 b8 rfl rfl rfl ⟨_,_,_,B8,rfl⟩ (SP.old 0 b8 [3,7,11] (fun u=>#[(u 3).v,((u 7).v.cells.getD 0 undef),((u 7).v.cells.getD 1 undef),(u 11).v]) 180 (by intro u u' h;simp [h 3 (by simp),h 7 (by simp),h 11 (by simp)]) (lt_of B8) (by intro y k hy;match y,hy with|0,hy=>rfl)) (fun u μ ρ H=>?_) ?_
 · have e4:=H.z 4 E1_1;have e17:=H.e 17 12 (by kernel_rfl) (H.a 12 rfl);have o3:=VP1.rat (H.a 3 rfl);have op7_0:((u 7).v.cells[0]?.getD undef).oneCell'=true:=(by obtain ⟨x1,x2,h1,h2,h3⟩:=(H.a 7 rfl);rw [h1];exact VP1.ratn h2);have op7_1:((u 7).v.cells[1]?.getD undef).oneCell'=true:=(by obtain ⟨x1,x2,h1,h2,h3⟩:=(H.a 7 rfl);rw [h1];exact VP1.ratn h3);have o11:=VP1.rat (H.a 11 rfl);have hb:=H.blkOld B8 0 13 rfl (.inl rfl)
   refine ⟨μ.setRow b8 #[(u 3).v,((u 7).v.cells.getD 0 undef),((u 7).v.cells.getD 1 undef),(u 11).v],ex_store_row 180 _ _ rfl e4 e17 hb (by kernel_rfl) rfl (by simp [o3,op7_0,ptr1,op7_1,o11]<;>rfl),fun g=>?_,setRow_only _ _ _⟩
   show (World.setRow _ _ _).heap[b8]? = _
   rw [setRow_at hb];try simp [upd]
 refine .d1 (fun u=>.agg #[pt b1,x2,x3,pt b4]::pt b5::u1 0::U::u1 1::sq u 0 13 []) K9 bel A8 fun u2 w2 D bel=>?_
 obtain ⟨b10,E2_3,L10,F10⟩:=RatP.elim (D.rr 3)
 obtain ⟨x11,x12,E2_7,F_x11,F_x12⟩:=(D.rr 7)
 obtain ⟨b13,E2_11,L13,F13⟩:=RatP.elim (D.rr 11)
 replace B8:w2.heap[b8]? = _:=(D.a 13 rfl)
 simp only [Value.cells,E2_3,E2_7,E2_11] at B8
 clear D
 refine wp_ret ?_
 refine ret_ok rfl (by exact results_row rfl (by exact E1_1) B8 Tryz.underlying180 rfl (by kernel_rfl)) ⟨_,rfl,?_,bel⟩
 exact (RingP.mk (VP.at F10 L10) F_x11 F_x12 (VP.at F13 L13))
theorem dsOut {v0:Value} (c:Ci) (t0:(RingP c).p S v0 W) (p0:ht c.a+ht c.b.re+ht c.b.im+ht c.c≤67108000) :
  Calls Tryz.prog 116 #[v0] W (Ret (RingP c.out) S W):=by
 obtain ⟨b1,x2,x3,b4,rfl,L1,L4,F1,F_x2,F_x3,F4⟩:=RingP.elim t0
 replace L1:Amb S W b1:=.inl L1
 replace F_x2:(RatN c.b.re).p (Amb S W) x2 W:=(RatN c.b.re).mono (fun _ _ h=>.inl h) F_x2
 replace F_x3:(RatN c.b.im).p (Amb S W) x3 W:=(RatN c.b.im).mono (fun _ _ h=>.inl h) F_x3
 replace L4:Amb S W b4:=.inl L4
 have z2:ht (Rat.divInt (-1:Int) (1:Int))=2:=by decide
 have bel:=b0 W
 go_enter Tryz.func116,Tryz.ntmps116
 refine gs 2 (Amb S W) fun _ K5=>?_
 refine .bx rfl (fun H=>H.v 0 (.agg #[pt b1,x2,x3,pt b4])) ?_
 refine .al rfl (#[.pointer none,.pointer none,.pointer none,.pointer none]) ?_
 refine .dk (fun u=>.agg #[pt b1,x2,x3,pt b4]::u 0::u 1::us 3) K5 bel fun u1 w1 D bel=>?_
 obtain ⟨b6,E1_0,A6,B6⟩:=D.nw 0
 obtain ⟨b7,E1_1,A7,B7⟩:=D.nw 1
 have N1_7:=D.n1 1 (RatP.lt F1) E1_1
 have N4_7:=D.n1 1 (RatP.lt F4) E1_1
 have N6_7:=D.n2 0 1 E1_0 E1_1
 replace F1:=D.o L1 F1
 replace F4:=D.o L4 F4
 replace F_x2:=D.gr (RatN c.b.re) F_x2
 replace F_x3:=D.gr (RatN c.b.im) F_x3
 clear D
 refine gd1 4 (Amb S W) 3 B7 fun _ K8=>?_
 refine .e rfl (fun H=>x_ldr (H.z 1 E1_0) (H.b1 B6 (Ne.symm N6_7))) ?_
 refine .cR rfl [] Tryz.func132 (fun H=>⟨_,ar2 (H.c (.int .i64 (-1))) (H.c (.int .i64 1)),qNewRat _ _ (by omega) (by omega) (by omega) (by omega) (by omega)⟩) ?_
 refine .cR rfl [1] Tryz.func204 (fun H=>⟨_,ar2 (H.g 3 0) (H.r 4 1),dsTimes _ _ (RingP.mk (H.was _ [1] (VP.at F1 L1)) (H.was _ [1] F_x2) (H.was _ [1] F_x3) (H.was _ [1] (VP.at F4 L4))) (SV.sub [1] (H.a 1 rfl) rfl) (by omega)⟩) ?_
 refine Go2.storeOld (i:=3) 0 b7 rfl rfl rfl ⟨_,_,_,B7,rfl⟩ (SP.old 0 b7 [2] (fun u=>#[((u 2).v.cells.getD 0 undef),((u 2).v.cells.getD 1 undef),((u 2).v.cells.getD 2 undef),((u 2).v.cells.getD 3 undef)]) 180 (by intro u u' h;simp [h 2 (by simp)]) (lt_of B7) (by intro y k hy;match y,hy with|0,hy=>rfl)) (fun u μ ρ H=>?_) ?_
 · have e2:=H.z 2 E1_1;have e5:=H.r 5 2;have hb:=H.blkOld B7 0 3 rfl (.inl rfl)
   obtain ⟨x1,x2,x3,x4,h1,h2,h3,h4,h5⟩:=(H.a 2 rfl)
   have o1:=VP1.rat h2
   have o2:=VP1.ratn h3
   have o3:=VP1.ratn h4
   have o4:=VP1.rat h5
   rw [h1] at e5
   refine ⟨μ.setRow b7 #[x1,x2,x3,x4],ex_store_row 180 _ _ rfl e2 e5 hb (by kernel_rfl) rfl (by simp [o1,o2,o3,o4]<;>rfl),fun g=>?_,setRow_only _ _ _⟩
   show (World.setRow _ _ _).heap[b7]? = _
   rw [setRow_at hb];try simp [upd,h1,Value.cells]
 refine .d1 (fun u=>.agg #[pt b1,x2,x3,pt b4]::u1 0::u1 1::sq u 0 3 []) K8 bel A7 fun u2 w2 D bel=>?_
 obtain ⟨b9,x10,x11,b12,E2_2,L9,L12,F9,F_x10,F_x11,F12⟩:=RingP.elim (D.rr 2)
 replace B7:w2.heap[b7]? = _:=(D.a 3 rfl)
 simp only [Value.cells,E2_2] at B7
 clear D
 refine wp_ret ?_
 refine ret_ok rfl (by exact results_row rfl (by exact E1_1) B7 Tryz.underlying180 rfl (by kernel_rfl)) ⟨_,rfl,?_,bel⟩
 exact ring_eq (out_eq c) (RingP.mk (VP.at F9 L9) F_x10 F_x11 (VP.at F12 L12))
theorem dsSame {v0:Value} {v1:Value} (c:Ci) (d:Ci) (t0:(RingP c).p S v0 W) (t1:(RingP d).p S v1 W) (p0:ht c.a+ht c.b.re+ht c.b.im+ht c.c+(ht d.a+ht d.b.re+ht d.b.im+ht d.c)≤1073741824) :
  Calls Tryz.prog 272 #[v0,v1] W (RetV (.bool (decide (c=d))) W):=by
 obtain ⟨b1,x2,x3,b4,rfl,L1,L4,F1,F_x2,F_x3,F4⟩:=RingP.elim t0
 replace L1:Amb S W b1:=.inl L1
 replace F_x2:(RatN c.b.re).p (Amb S W) x2 W:=(RatN c.b.re).mono (fun _ _ h=>.inl h) F_x2
 replace F_x3:(RatN c.b.im).p (Amb S W) x3 W:=(RatN c.b.im).mono (fun _ _ h=>.inl h) F_x3
 replace L4:Amb S W b4:=.inl L4
 obtain ⟨b5,x6,x7,b8,rfl,L5,L8,F5,F_x6,F_x7,F8⟩:=RingP.elim t1
 replace L5:Amb S W b5:=.inl L5
 replace F_x6:(RatN d.b.re).p (Amb S W) x6 W:=(RatN d.b.re).mono (fun _ _ h=>.inl h) F_x6
 replace F_x7:(RatN d.b.im).p (Amb S W) x7 W:=(RatN d.b.im).mono (fun _ _ h=>.inl h) F_x7
 replace L8:Amb S W b8:=.inl L8
 have bel:=b0 W
 go_enter Tryz.func272,Tryz.ntmps272
 refine gs 3 (Amb S W) fun _ K9=>?_
 refine .bx rfl (fun H=>H.v 0 (.agg #[pt b1,x2,x3,pt b4])) ?_
 refine .bx rfl (fun H=>H.v 1 (.agg #[pt b5,x6,x7,pt b8])) ?_
 refine .mc rfl ?_
 refine .dk (fun u=>.agg #[pt b1,x2,x3,pt b4]::.agg #[pt b5,x6,x7,pt b8]::sq u 0 3 (us 21)) K9 bel fun u1 w1 D bel=>?_
 obtain ⟨b10,E1_0,A10,B10⟩:=D.nw 0
 obtain ⟨b11,E1_1,A11,B11⟩:=D.nw 1
 have E1_2:=D.q 2
 replace F1:=D.o L1 F1
 replace F4:=D.o L4 F4
 replace F5:=D.o L5 F5
 replace F8:=D.o L8 F8
 replace F_x2:=D.gr (RatN c.b.re) F_x2
 replace F_x3:=D.gr (RatN c.b.im) F_x3
 replace F_x6:=D.gr (RatN d.b.re) F_x6
 replace F_x7:=D.gr (RatN d.b.im) F_x7
 clear D
 rcases Bool.eq_false_or_eq_true ((icmp (c.a.num*(d.a.den:Int)) (d.a.num*(c.a.den:Int))) == 0) with c13|c13
 ·
  rcases Bool.eq_false_or_eq_true ((c.b.sub d.b).zero) with c14|c14
  ·
   refine gs 22 (Amb S W) fun _ K12=>?_
   refine .fz rfl 2 0 E1_0 ?_
   refine .lc rfl 0 B10 ?_ (V:=pt b1)
   refine .fz rfl 3 0 E1_1 ?_
   refine .lc rfl 2 B11 ?_ (V:=pt b5)
   refine .cK rfl Tryz.func175 (fun H=>⟨_,ar2 (H.g 6 1) (H.g 8 3),qCmp _ _ (VP.any _ (H.was _ [] (VP.at F1 L1))) (VP.any _ (H.was _ [] (VP.at F5 L5))) (by omega)⟩) ?_
   refine .e rfl (V:=.bool true) (fun H=>x_cm (H.g 9 4) (H.c _) c13) ?_
   refine .mv rfl 5 ?_
   refine .fz rfl 2 1 E1_0 ?_ (hg:=gq 6 rfl)
   refine .lp rfl 7 (#[x2,x3]) B10 ?_ (hg:=gq 6 rfl)
   refine .fz rfl 3 1 E1_1 ?_ (hg:=gq 6 rfl)
   refine .lp rfl 9 (#[x6,x7]) B11 ?_ (hg:=gq 6 rfl)
   refine .cK rfl (V:=.bool true) Tryz.func179 (fun H=>⟨_,ar2 (H.g 13 8) (H.g 15 10),reV (congrArg Value.bool c14) (eSame _ _ (NumP.mk (VP.any _ (H.was _ [] F_x2)) (VP.any _ (H.was _ [] F_x3))) (NumP.mk (VP.any _ (H.was _ [] F_x6)) (VP.any _ (H.was _ [] F_x7))) (by omega))⟩) ?_ (hg:=gq 6 rfl)
   refine .e rfl (fun H=>x_pkT (H.g 11 6) (H.g 16 11)) ?_
   refine .mv rfl 12 ?_
   refine .fz rfl 2 3 E1_0 ?_ (hg:=gq 13 rfl)
   refine .lc rfl 14 B10 ?_ (V:=pt b4) (hg:=gq 13 rfl)
   refine .fz rfl 3 3 E1_1 ?_ (hg:=gq 13 rfl)
   refine .lc rfl 16 B11 ?_ (V:=pt b8) (hg:=gq 13 rfl)
   refine .cK rfl Tryz.func175 (fun H=>⟨_,ar2 (H.g 20 15) (H.g 22 17),qCmp _ _ (VP.any _ (H.was _ [] (VP.at F4 L4))) (VP.any _ (H.was _ [] (VP.at F8 L8))) (by omega)⟩) ?_ (hg:=gq 13 rfl)
   refine .e rfl (V:=.bool ((icmp (c.c.num*(d.c.den:Int)) (d.c.num*(c.c.den:Int))) == 0)) (fun H=>x_cmp (H.g 23 18) (H.c _)) ?_ (hg:=gq 13 rfl)
   refine .e rfl (fun H=>x_pkT (H.g 18 13) (H.g 24 19)) ?_
   refine .mv rfl 20 ?_
   refine .dk (fun u=>.agg #[pt b1,x2,x3,pt b4]::.agg #[pt b5,x6,x7,pt b8]::u1 0::u1 1::u 21::sq u 0 21 []) K12 bel fun u2 w2 D bel=>?_
   have E2_21:=D.q 21
   clear D
   exact wp_ret (rt rfl E2_21 (by rw [← sm_dec];unfold Ci.sm;rw [c13,c14];rfl) bel)
  ·
   refine gs 22 (Amb S W) fun _ K12=>?_
   refine .fz rfl 2 0 E1_0 ?_
   refine .lc rfl 0 B10 ?_ (V:=pt b1)
   refine .fz rfl 3 0 E1_1 ?_
   refine .lc rfl 2 B11 ?_ (V:=pt b5)
   refine .cK rfl Tryz.func175 (fun H=>⟨_,ar2 (H.g 6 1) (H.g 8 3),qCmp _ _ (VP.any _ (H.was _ [] (VP.at F1 L1))) (VP.any _ (H.was _ [] (VP.at F5 L5))) (by omega)⟩) ?_
   refine .e rfl (V:=.bool true) (fun H=>x_cm (H.g 9 4) (H.c _) c13) ?_
   refine .mv rfl 5 ?_
   refine .fz rfl 2 1 E1_0 ?_ (hg:=gq 6 rfl)
   refine .lp rfl 7 (#[x2,x3]) B10 ?_ (hg:=gq 6 rfl)
   refine .fz rfl 3 1 E1_1 ?_ (hg:=gq 6 rfl)
   refine .lp rfl 9 (#[x6,x7]) B11 ?_ (hg:=gq 6 rfl)
   refine .cK rfl (V:=.bool false) Tryz.func179 (fun H=>⟨_,ar2 (H.g 13 8) (H.g 15 10),reV (congrArg Value.bool c14) (eSame _ _ (NumP.mk (VP.any _ (H.was _ [] F_x2)) (VP.any _ (H.was _ [] F_x3))) (NumP.mk (VP.any _ (H.was _ [] F_x6)) (VP.any _ (H.was _ [] F_x7))) (by omega))⟩) ?_ (hg:=gq 6 rfl)
   refine .e rfl (fun H=>x_pkT (H.g 11 6) (H.g 16 11)) ?_
   refine .mv rfl 12 ?_
   refine .sk rfl 13 ?_
   refine .sk rfl 13 ?_
   refine .sk rfl 13 ?_
   refine .sk rfl 13 ?_
   refine .sk rfl 13 ?_
   refine .sk rfl 13 ?_
   refine .e rfl (fun H=>x_pkF (H.g 18 13) (H.c _)) ?_
   refine .mv rfl 20 ?_
   refine .dk (fun u=>.agg #[pt b1,x2,x3,pt b4]::.agg #[pt b5,x6,x7,pt b8]::u1 0::u1 1::u 21::sq u 0 21 []) K12 bel fun u2 w2 D bel=>?_
   have E2_21:=D.q 21
   clear D
   exact wp_ret (rt rfl E2_21 (by rw [← sm_dec];unfold Ci.sm;rw [c13,c14];rfl) bel)
 ·
  refine gs 22 (Amb S W) fun _ K12=>?_
  refine .fz rfl 2 0 E1_0 ?_
  refine .lc rfl 0 B10 ?_ (V:=pt b1)
  refine .fz rfl 3 0 E1_1 ?_
  refine .lc rfl 2 B11 ?_ (V:=pt b5)
  refine .cK rfl Tryz.func175 (fun H=>⟨_,ar2 (H.g 6 1) (H.g 8 3),qCmp _ _ (VP.any _ (H.was _ [] (VP.at F1 L1))) (VP.any _ (H.was _ [] (VP.at F5 L5))) (by omega)⟩) ?_
  refine .e rfl (V:=.bool false) (fun H=>x_cm (H.g 9 4) (H.c _) c13) ?_
  refine .mv rfl 5 ?_
  refine .sk rfl 6 ?_
  refine .sk rfl 6 ?_
  refine .sk rfl 6 ?_
  refine .sk rfl 6 ?_
  refine .sk rfl 6 ?_
  refine .e rfl (fun H=>x_pkF (H.g 11 6) (H.c _)) ?_
  refine .mv rfl 12 ?_
  refine .sk rfl 13 ?_
  refine .sk rfl 13 ?_
  refine .sk rfl 13 ?_
  refine .sk rfl 13 ?_
  refine .sk rfl 13 ?_
  refine .sk rfl 13 ?_
  refine .e rfl (fun H=>x_pkF (H.g 18 13) (H.c _)) ?_
  refine .mv rfl 20 ?_
  refine .dk (fun u=>.agg #[pt b1,x2,x3,pt b4]::.agg #[pt b5,x6,x7,pt b8]::u1 0::u1 1::u 21::sq u 0 21 []) K12 bel fun u2 w2 D bel=>?_
  have E2_21:=D.q 21
  clear D
  exact wp_ret (rt rfl E2_21 (by rw [← sm_dec];unfold Ci.sm;rw [c13];rfl) bel)
theorem dsTold {v0:Value} (c:Ci) (t0:(RingP c).p S v0 W) (p0:ht c.a+ht c.b.re+ht c.b.im+ht c.c≤1073741824) :
  Calls Tryz.prog 118 #[v0] W (RetV (.tuple #[.agg #[.bool (((cicut c).a).a).n,.string (((cicut c).a).a).s,.bool (((cicut c).a).b).n,.string (((cicut c).a).b).s,.bool ((((cicut c).b).re).a).n,.string ((((cicut c).b).re).a).s,.bool ((((cicut c).b).re).b).n,.string ((((cicut c).b).re).b).s,.bool ((((cicut c).b).im).a).n,.string ((((cicut c).b).im).a).s,.bool ((((cicut c).b).im).b).n,.string ((((cicut c).b).im).b).s,.bool (((cicut c).c).a).n,.string (((cicut c).c).a).s,.bool (((cicut c).c).b).n,.string (((cicut c).c).b).s],.int .i64 (cierr c)]) W):=by
 obtain ⟨b1,x2,x3,b4,rfl,L1,L4,F1,F_x2,F_x3,F4⟩:=RingP.elim t0
 replace L1:Amb S W b1:=.inl L1
 replace F_x2:(RatN c.b.re).p (Amb S W) x2 W:=(RatN c.b.re).mono (fun _ _ h=>.inl h) F_x2
 replace F_x3:(RatN c.b.im).p (Amb S W) x3 W:=(RatN c.b.im).mono (fun _ _ h=>.inl h) F_x3
 replace L4:Amb S W b4:=.inl L4
 have bel:=b0 W
 go_enter Tryz.func118,Tryz.ntmps118
 refine gs 3 (Amb S W) fun _ K5=>?_
 refine .bx rfl (fun H=>H.v 0 (.agg #[pt b1,x2,x3,pt b4])) ?_
 refine .al rfl zCi ?_
 refine .mc rfl ?_
 refine .dk (fun u=>.agg #[pt b1,x2,x3,pt b4]::sq u 0 3 (us 39)) K5 bel fun u1 w1 D bel=>?_
 obtain ⟨b6,E1_0,A6,B6⟩:=D.nw 0
 obtain ⟨b7,E1_1,A7,B7⟩:=D.nw 1
 have E1_2:=D.q 2
 have N1_7:=D.n1 1 (RatP.lt F1) E1_1
 have N4_7:=D.n1 1 (RatP.lt F4) E1_1
 have N6_7:=D.n2 0 1 E1_0 E1_1
 replace F1:=D.o L1 F1
 replace F4:=D.o L4 F4
 replace F_x2:=D.gr (RatN c.b.re) F_x2
 replace F_x3:=D.gr (RatN c.b.im) F_x3
 clear D
 refine gs 9 (Amb S W) fun _ K8=>?_
 refine .fz rfl 1 0 E1_0 ?_
 refine .lc rfl 0 B6 ?_ (V:=pt b1)
 refine .cK rfl Tryz.func213 (fun H=>⟨_,ar1 (H.g 12 1),eFrac _ (RatP.n (VP.any _ (H.was _ [] (VP.at F1 L1)))) (by omega)⟩) ?_
 refine .mv rfl 2 ?_
 refine .e rfl (V:=rfV (fcut c.a)) (fun H=>x_ex (H.g 10 3)) ?_
 refine .e rfl (V:=.int .i64 (ferr c.a)) (fun H=>x_ex (H.g 10 3)) ?_
 refine .al rfl zF ?_
 refine .so rfl 6 (fun H=>⟨H.r 4 6,H.g 14 4⟩) ?_
 refine .mv rfl 5 ?_
 refine .dk (fun u=>.agg #[pt b1,x2,x3,pt b4]::sq u1 0 3 (u 6::u 8::U::U::U::U::u 3::sq u 0 3 (u 4::u 5::us 27))) K8 bel fun u2 w2 D bel=>?_
 obtain ⟨b9,E2_6,A9,B9⟩:=D.st 7
 have E2_8:=D.q 8
 have N7_9:=D.n1 6 (lt_of B7) E2_6
 replace B6:=D.k B6
 replace B7:=D.k B7
 replace F1:=D.o L1 F1
 replace F4:=D.o L4 F4
 replace F_x2:=D.gr (RatN c.b.re) F_x2
 replace F_x3:=D.gr (RatN c.b.im) F_x3
 clear D
 refine gs 9 (Amb S W) fun _ K10=>?_
 refine .fz rfl 1 1 E1_0 ?_
 refine .lp rfl 0 (#[x2,x3]) B6 ?_
 refine .cK rfl Tryz.func229 (fun H=>⟨_,ar1 (H.g 18 1),eTold _ (NumP.mk (VP.any _ (H.was _ [] F_x2)) (VP.any _ (H.was _ [] F_x3))) (by omega)⟩) ?_
 refine .mv rfl 2 ?_
 refine .e rfl (V:=rgV (gcut c.b)) (fun H=>x_ex (H.g 16 3)) ?_
 refine .e rfl (V:=.int .i64 (gerr c.b)) (fun H=>x_ex (H.g 16 3)) ?_
 refine .al rfl zG ?_
 refine .so rfl 6 (fun H=>⟨H.r 6 6,H.g 20 4⟩) ?_
 refine .mv rfl 5 ?_
 refine .dk (fun u=>.agg #[pt b1,x2,x3,pt b4]::sq u1 0 3 (u2 6::u2 8::u 6::u 8::U::U::u2 3::sq u2 0 3 (u2 4::u2 5::u 3::sq u 0 3 (u 4::u 5::us 21)))) K10 bel fun u3 w3 D bel=>?_
 obtain ⟨b11,E3_6,A11,B11⟩:=D.st 7
 have E3_8:=D.q 8
 have N7_11:=D.n1 6 (lt_of B7) E3_6
 replace B6:=D.k B6
 replace B7:=D.k B7
 replace B9:=D.k B9
 replace F1:=D.o L1 F1
 replace F4:=D.o L4 F4
 replace F_x2:=D.gr (RatN c.b.re) F_x2
 replace F_x3:=D.gr (RatN c.b.im) F_x3
 clear D
 refine gs 9 (Amb S W) fun _ K12=>?_
 refine .fz rfl 1 3 E1_0 ?_
 refine .lc rfl 0 B6 ?_ (V:=pt b4)
 refine .cK rfl Tryz.func213 (fun H=>⟨_,ar1 (H.g 24 1),eFrac _ (RatP.n (VP.any _ (H.was _ [] (VP.at F4 L4)))) (by omega)⟩) ?_
 refine .mv rfl 2 ?_
 refine .e rfl (V:=rfV (fcut c.c)) (fun H=>x_ex (H.g 22 3)) ?_
 refine .e rfl (V:=.int .i64 (ferr c.c)) (fun H=>x_ex (H.g 22 3)) ?_
 refine .al rfl zF ?_
 refine .so rfl 6 (fun H=>⟨H.r 8 6,H.g 26 4⟩) ?_
 refine .mv rfl 5 ?_
 refine .dk (fun u=>.agg #[pt b1,x2,x3,pt b4]::sq u1 0 3 (u2 6::u2 8::u3 6::u3 8::u 6::u 8::u2 3::sq u2 0 3 (u2 4::u2 5::u3 3::sq u3 0 3 (u3 4::u3 5::u 3::sq u 0 3 (u 4::u 5::us 15))))) K12 bel fun u4 w4 D bel=>?_
 obtain ⟨b13,E4_6,A13,B13⟩:=D.st 7
 have E4_8:=D.q 8
 have N7_13:=D.n1 6 (lt_of B7) E4_6
 replace B7:=D.k B7
 replace B9:=D.k B9
 replace B11:=D.k B11
 clear D
 refine wp_seq_k fun _ K14=>?_
 rcases Bool.eq_false_or_eq_true ((ferr c.a) != 0) with c16|c16
 ·
  refine gs 10 (Amb S W) fun _ K15=>?_
  refine .mz rfl 5 E2_8 ?_
  refine .e rfl (V:=.bool true) (fun H=>x_cm (H.g 28 0) (H.c _) c16) ?_
  refine .mv rfl 1 ?_
  refine .sk rfl 2 ?_
  refine .sk rfl 2 ?_
  refine .e rfl (fun H=>x_pkT (H.g 30 2) (H.c _)) ?_
  refine .mv rfl 5 ?_
  refine .sk rfl 6 ?_
  refine .sk rfl 6 ?_
  refine .e rfl (fun H=>x_pkT (H.g 34 6) (H.c _)) ?_
  refine .dk (fun u=>.agg #[pt b1,x2,x3,pt b4]::sq u1 0 3 (u2 6::u2 8::u3 6::u3 8::u4 6::u4 8::u2 3::sq u2 0 3 (u2 4::u2 5::u3 3::sq u3 0 3 (u3 4::u3 5::u4 3::sq u4 0 3 (u4 4::u4 5::sq u 0 10 (us 5)))))) K15 bel fun u5 w5 D bel=>?_
  have E5_9:=D.q 9
  replace B7:=D.k B7
  replace B9:=D.k B9
  replace B11:=D.k B11
  replace B13:=D.k B13
  clear D
  refine wp_cond_true (by exact E5_9) ?_
  refine gs1 3 (Amb S W) 1 B7 fun _ K17=>?_
  refine .e rfl (V:=.agg zCi) (fun H=>by clear H;go_simp) ?_
  refine .s1 rfl B7 (fun H=>⟨H.z 2 E1_1,H.g 38 0⟩) ?_
  refine .mc rfl ?_
  refine .d1 (fun u=>.agg #[pt b1,x2,x3,pt b4]::u1 0::u1 1::u 2::u2 6::u2 8::u3 6::u3 8::u4 6::u4 8::u2 3::sq u2 0 3 (u2 4::u2 5::u3 3::sq u3 0 3 (u3 4::u3 5::u4 3::sq u4 0 3 (u4 4::u4 5::sq u5 0 10 (u 0::us 4))))) K17 bel A7 fun u6 w6 D bel=>?_
  have E6_2:=D.q 2
  replace B7:=D.ol 1
  clear D
  refine wp_ret ?_
  refine ret_ok rfl (by exact results_mix rfl (by exact E1_1) B7 Tryz.underlying29 rfl (by kernel_rfl) (by exact E6_2)) (RetV.mk ?_ bel)
  exact congrArg Ending.returned (ccut_no (.inl c16))
 ·
  rcases Bool.eq_false_or_eq_true ((gerr c.b) != 0) with c18|c18
  ·
   refine gs 10 (Amb S W) fun _ K15=>?_
   refine .mz rfl 5 E2_8 ?_
   refine .e rfl (V:=.bool false) (fun H=>x_cm (H.g 28 0) (H.c _) c16) ?_
   refine .mv rfl 1 ?_
   refine .mz rfl 7 E3_8 ?_ (hg:=gq 2 rfl)
   refine .e rfl (V:=.bool true) (fun H=>x_cm (H.g 31 3) (H.c _) c18) ?_ (hg:=gq 2 rfl)
   refine .e rfl (fun H=>x_pkF (H.g 30 2) (H.g 32 4)) ?_
   refine .mv rfl 5 ?_
   refine .sk rfl 6 ?_
   refine .sk rfl 6 ?_
   refine .e rfl (fun H=>x_pkT (H.g 34 6) (H.c _)) ?_
   refine .dk (fun u=>.agg #[pt b1,x2,x3,pt b4]::sq u1 0 3 (u2 6::u2 8::u3 6::u3 8::u4 6::u4 8::u2 3::sq u2 0 3 (u2 4::u2 5::u3 3::sq u3 0 3 (u3 4::u3 5::u4 3::sq u4 0 3 (u4 4::u4 5::sq u 0 10 (us 5)))))) K15 bel fun u5 w5 D bel=>?_
   have E5_9:=D.q 9
   replace B7:=D.k B7
   replace B9:=D.k B9
   replace B11:=D.k B11
   replace B13:=D.k B13
   clear D
   refine wp_cond_true (by exact E5_9) ?_
   refine gs1 3 (Amb S W) 1 B7 fun _ K19=>?_
   refine .e rfl (V:=.agg zCi) (fun H=>by clear H;go_simp) ?_
   refine .s1 rfl B7 (fun H=>⟨H.z 2 E1_1,H.g 38 0⟩) ?_
   refine .mc rfl ?_
   refine .d1 (fun u=>.agg #[pt b1,x2,x3,pt b4]::u1 0::u1 1::u 2::u2 6::u2 8::u3 6::u3 8::u4 6::u4 8::u2 3::sq u2 0 3 (u2 4::u2 5::u3 3::sq u3 0 3 (u3 4::u3 5::u4 3::sq u4 0 3 (u4 4::u4 5::sq u5 0 10 (u 0::us 4))))) K19 bel A7 fun u6 w6 D bel=>?_
   have E6_2:=D.q 2
   replace B7:=D.ol 1
   clear D
   refine wp_ret ?_
   refine ret_ok rfl (by exact results_mix rfl (by exact E1_1) B7 Tryz.underlying29 rfl (by kernel_rfl) (by exact E6_2)) (RetV.mk ?_ bel)
   exact congrArg Ending.returned (ccut_no (.inr (.inl c18)))
  ·
   refine gs 10 (Amb S W) fun _ K15=>?_
   refine .mz rfl 5 E2_8 ?_
   refine .e rfl (V:=.bool false) (fun H=>x_cm (H.g 28 0) (H.c _) c16) ?_
   refine .mv rfl 1 ?_
   refine .mz rfl 7 E3_8 ?_ (hg:=gq 2 rfl)
   refine .e rfl (V:=.bool false) (fun H=>x_cm (H.g 31 3) (H.c _) c18) ?_ (hg:=gq 2 rfl)
   refine .e rfl (fun H=>x_pkF (H.g 30 2) (H.g 32 4)) ?_
   refine .mv rfl 5 ?_
   refine .mz rfl 9 E4_8 ?_ (hg:=gq 6 rfl)
   refine .e rfl (V:=.bool ((ferr c.c) != 0)) (fun H=>x_cmp (H.g 35 7) (H.c _)) ?_ (hg:=gq 6 rfl)
   refine .e rfl (fun H=>x_pkF (H.g 34 6) (H.g 36 8)) ?_
   refine .dk (fun u=>.agg #[pt b1,x2,x3,pt b4]::sq u1 0 3 (u2 6::u2 8::u3 6::u3 8::u4 6::u4 8::u2 3::sq u2 0 3 (u2 4::u2 5::u3 3::sq u3 0 3 (u3 4::u3 5::u4 3::sq u4 0 3 (u4 4::u4 5::sq u 0 10 (us 5)))))) K15 bel fun u5 w5 D bel=>?_
   have E5_9:=D.q 9
   replace B7:=D.k B7
   replace B9:=D.k B9
   replace B11:=D.k B11
   replace B13:=D.k B13
   clear D
   rcases Bool.eq_false_or_eq_true ((ferr c.c) != 0) with c20|c20
   ·
    refine wp_cond_true ((E5_9).trans (congrArg Value.bool c20)) ?_
    refine gs1 3 (Amb S W) 1 B7 fun _ K21=>?_
    refine .e rfl (V:=.agg zCi) (fun H=>by clear H;go_simp) ?_
    refine .s1 rfl B7 (fun H=>⟨H.z 2 E1_1,H.g 38 0⟩) ?_
    refine .mc rfl ?_
    refine .d1 (fun u=>.agg #[pt b1,x2,x3,pt b4]::u1 0::u1 1::u 2::u2 6::u2 8::u3 6::u3 8::u4 6::u4 8::u2 3::sq u2 0 3 (u2 4::u2 5::u3 3::sq u3 0 3 (u3 4::u3 5::u4 3::sq u4 0 3 (u4 4::u4 5::sq u5 0 10 (u 0::us 4))))) K21 bel A7 fun u6 w6 D bel=>?_
    have E6_2:=D.q 2
    replace B7:=D.ol 1
    clear D
    refine wp_ret ?_
    refine ret_ok rfl (by exact results_mix rfl (by exact E1_1) B7 Tryz.underlying29 rfl (by kernel_rfl) (by exact E6_2)) (RetV.mk ?_ bel)
    exact congrArg Ending.returned (ccut_no (.inr (.inr c20)))
   ·
    refine wp_cond_false ((E5_9).trans (congrArg Value.bool c20)) ?_
    refine wp_skip ?_
    refine K14 _ _ ?_
    refine gs1 6 (Amb S W) 4 B7 fun _ K22=>?_
    refine .e rfl (fun H=>x_ldr (H.z 4 E2_6) (H.b1 B9 N7_9)) ?_
    refine .e rfl (fun H=>x_ldr (H.z 6 E3_6) (H.b1 B11 N7_11)) ?_
    refine .e rfl (fun H=>x_ldr (H.z 8 E4_6) (H.b1 B13 N7_13)) ?_
    refine .e rfl (V:=rciV (RCi.mk (fcut c.a) (gcut c.b) (fcut c.c))) (fun H=>by have e39:=H.g 39 0;have e40:=H.g 40 1;have e41:=H.g 41 2;clear H;go_simp) ?_
    refine .s1 rfl B7 (fun H=>⟨H.z 2 E1_1,H.g 42 3⟩) ?_
    refine .mc rfl ?_
    refine .d1 (fun u=>.agg #[pt b1,x2,x3,pt b4]::u1 0::u1 1::u 5::u2 6::u2 8::u3 6::u3 8::u4 6::u4 8::u2 3::sq u2 0 3 (u2 4::u2 5::u3 3::sq u3 0 3 (u3 4::u3 5::u4 3::sq u4 0 3 (u4 4::u4 5::sq u5 0 10 (U::sq u 0 4 []))))) K22 bel A7 fun u7 w7 D bel=>?_
    have E7_5:=D.q 5
    replace B7:=D.ol 4
    clear D
    refine wp_ret ?_
    refine ret_ok rfl (by exact results_mix rfl (by exact E1_1) B7 Tryz.underlying29 rfl (by kernel_rfl) (by exact E7_5)) (RetV.mk ?_ bel)
    exact congrArg Ending.returned (ccut_yes c16 c18 c20)
theorem dsTouch {v0:Value} {v1:Value} (c:Ci) (d:Ci) (t0:(RingP c).p S v0 W) (t1:(RingP d).p S v1 W) (p0:ht c.a+ht c.b.re+ht c.b.im+ht c.c+(ht d.a+ht d.b.re+ht d.b.im+ht d.c)≤67108000) :
  Calls Tryz.prog 226 #[v0,v1] W (RetV (.bool (c.touch d)) W):=by
 obtain ⟨b1,x2,x3,b4,rfl,L1,L4,F1,F_x2,F_x3,F4⟩:=RingP.elim t0
 replace L1:Amb S W b1:=.inl L1
 replace F_x2:(RatN c.b.re).p (Amb S W) x2 W:=(RatN c.b.re).mono (fun _ _ h=>.inl h) F_x2
 replace F_x3:(RatN c.b.im).p (Amb S W) x3 W:=(RatN c.b.im).mono (fun _ _ h=>.inl h) F_x3
 replace L4:Amb S W b4:=.inl L4
 obtain ⟨b5,x6,x7,b8,rfl,L5,L8,F5,F_x6,F_x7,F8⟩:=RingP.elim t1
 replace L5:Amb S W b5:=.inl L5
 replace F_x6:(RatN d.b.re).p (Amb S W) x6 W:=(RatN d.b.re).mono (fun _ _ h=>.inl h) F_x6
 replace F_x7:(RatN d.b.im).p (Amb S W) x7 W:=(RatN d.b.im).mono (fun _ _ h=>.inl h) F_x7
 replace L8:Amb S W b8:=.inl L8
 have h1:=dot_ht c d
 have h2:=out_ht d
 have z2:ht (Rat.divInt (1:Int) (1:Int))=2:=by decide
 have bel:=b0 W
 go_enter Tryz.func226,Tryz.ntmps226
 refine gs 3 (Amb S W) fun _ K9=>?_
 refine .bx rfl (fun H=>H.v 0 (.agg #[pt b1,x2,x3,pt b4])) ?_
 refine .bx rfl (fun H=>H.v 1 (.agg #[pt b5,x6,x7,pt b8])) ?_
 refine .mc rfl ?_
 refine .dk (fun u=>.agg #[pt b1,x2,x3,pt b4]::.agg #[pt b5,x6,x7,pt b8]::sq u 0 3 (us 13)) K9 bel fun u1 w1 D bel=>?_
 obtain ⟨b10,E1_0,A10,B10⟩:=D.nw 0
 obtain ⟨b11,E1_1,A11,B11⟩:=D.nw 1
 have E1_2:=D.q 2
 replace F1:=D.o L1 F1
 replace F4:=D.o L4 F4
 replace F5:=D.o L5 F5
 replace F8:=D.o L8 F8
 replace F_x2:=D.gr (RatN c.b.re) F_x2
 replace F_x3:=D.gr (RatN c.b.im) F_x3
 replace F_x6:=D.gr (RatN d.b.re) F_x6
 replace F_x7:=D.gr (RatN d.b.im) F_x7
 clear D
 rcases Bool.eq_false_or_eq_true ((icmp ((c.dot d).num*((Rat.divInt (1:Int) (1:Int)).den:Int)) ((Rat.divInt (1:Int) (1:Int)).num*((c.dot d).den:Int))) == 0) with c13|c13
 ·
  refine gd 14 (Amb S W) fun _ K12=>?_
  refine .lr rfl 2 E1_0 B10 ?_
  refine .lr rfl 3 E1_1 B11 ?_
  refine .cR rfl [] Tryz.func214 (fun H=>⟨_,ar2 (H.g 5 0) (H.g 6 1),dsBy _ _ (RingP.mk (H.was _ [] (VP.at F1 L1)) (H.was _ [] F_x2) (H.was _ [] F_x3) (H.was _ [] (VP.at F4 L4))) (RingP.mk (H.was _ [] (VP.at F5 L5)) (H.was _ [] F_x6) (H.was _ [] F_x7) (H.was _ [] (VP.at F8 L8))) (by omega)⟩) ?_
  refine .cR rfl [] Tryz.func132 (fun H=>⟨_,ar2 (H.c (.int .i64 1)) (H.c (.int .i64 1)),qNewRat _ _ (by omega) (by omega) (by omega) (by omega) (by omega)⟩) ?_
  refine .cK rfl Tryz.func175 (fun H=>⟨_,ar2 (H.r 7 2) (H.r 8 3),qCmp _ _ (SV.any (H.a 2 rfl)) (SV.any (H.a 3 rfl)) (by omega)⟩) ?_
  refine .e rfl (V:=.bool true) (fun H=>x_cm (H.g 9 4) (H.c _) c13) ?_
  refine .mv rfl 5 ?_
  refine .lr rfl 2 E1_0 B10 ?_ (hg:=gq 6 rfl)
  refine .lr rfl 3 E1_1 B11 ?_ (hg:=gq 6 rfl)
  refine .cR rfl [] Tryz.func116 (fun H=>⟨_,ar1 (H.g 13 8),dsOut _ (RingP.mk (H.was _ [] (VP.at F5 L5)) (H.was _ [] F_x6) (H.was _ [] F_x7) (H.was _ [] (VP.at F8 L8))) (by omega)⟩) ?_ (hg:=gq 6 rfl)
  refine .cK rfl Tryz.func272 (fun H=>⟨_,ar2 (H.g 12 7) (H.r 14 9),dsSame _ _ (RingP.mk (VP.any _ (H.was _ [] (VP.at F1 L1))) (VP.any _ (H.was _ [] F_x2)) (VP.any _ (H.was _ [] F_x3)) (VP.any _ (H.was _ [] (VP.at F4 L4)))) (SV.any (H.a 9 rfl)) (by omega)⟩) ?_ (hg:=gq 6 rfl)
  refine .e rfl (V:=.bool (!(decide (c=d.out)))) (fun H=>x_not (H.g 15 10)) ?_ (hg:=gq 6 rfl)
  refine .e rfl (fun H=>x_pkT (H.g 11 6) (H.g 16 11)) ?_
  refine .mv rfl 12 ?_
  refine .dk (fun u=>.agg #[pt b1,x2,x3,pt b4]::.agg #[pt b5,x6,x7,pt b8]::u1 0::u1 1::u 13::sq u 0 13 []) K12 bel fun u2 w2 D bel=>?_
  have E2_13:=D.q 13
  clear D
  exact wp_ret (rt rfl E2_13 (touch_1 c13) bel)
 ·
  refine gd 14 (Amb S W) fun _ K12=>?_
  refine .lr rfl 2 E1_0 B10 ?_
  refine .lr rfl 3 E1_1 B11 ?_
  refine .cR rfl [] Tryz.func214 (fun H=>⟨_,ar2 (H.g 5 0) (H.g 6 1),dsBy _ _ (RingP.mk (H.was _ [] (VP.at F1 L1)) (H.was _ [] F_x2) (H.was _ [] F_x3) (H.was _ [] (VP.at F4 L4))) (RingP.mk (H.was _ [] (VP.at F5 L5)) (H.was _ [] F_x6) (H.was _ [] F_x7) (H.was _ [] (VP.at F8 L8))) (by omega)⟩) ?_
  refine .cR rfl [] Tryz.func132 (fun H=>⟨_,ar2 (H.c (.int .i64 1)) (H.c (.int .i64 1)),qNewRat _ _ (by omega) (by omega) (by omega) (by omega) (by omega)⟩) ?_
  refine .cK rfl Tryz.func175 (fun H=>⟨_,ar2 (H.r 7 2) (H.r 8 3),qCmp _ _ (SV.any (H.a 2 rfl)) (SV.any (H.a 3 rfl)) (by omega)⟩) ?_
  refine .e rfl (V:=.bool false) (fun H=>x_cm (H.g 9 4) (H.c _) c13) ?_
  refine .mv rfl 5 ?_
  refine .sk rfl 6 ?_
  refine .sk rfl 6 ?_
  refine .sk rfl 6 ?_
  refine .sk rfl 6 ?_
  refine .sk rfl 6 ?_
  refine .e rfl (fun H=>x_pkF (H.g 11 6) (H.c _)) ?_
  refine .mv rfl 12 ?_
  refine .dk (fun u=>.agg #[pt b1,x2,x3,pt b4]::.agg #[pt b5,x6,x7,pt b8]::u1 0::u1 1::u 13::sq u 0 13 []) K12 bel fun u2 w2 D bel=>?_
  have E2_13:=D.q 13
  clear D
  exact wp_ret (rt rfl E2_13 (touch_0 c13) bel)
end Go.Proofs.YtcpjdjnaipbieaaGreat
namespace Go.Proofs.YtcpjdjnaipbieaaGreat
open Go.RowKit Rgn
noncomputable def valM (r:RF):Rat:=if h:fmay r=true then (fmay_ex h).choose else 0
theorem valM_rf {q:Rat} (h:fmay (rf q)=true):valM (rf q)=q:=by
 unfold valM
 rw [dif_pos h]
 exact (rf_inj (fmay_ex h).choose_spec).symm
theorem ratw_yes {x y:Int} (h0:¬ y<0) (h1:¬ y.natAbs=0) (h2:¬ (1024:Int)<(((bS x.natAbs).size:Nat):Int)) (h3:¬ (1024:Int)<(((bS y.natAbs).size:Nat):Int))
  (h4:((icmp ((Rat.divInt x y).num) x) != 0)=false) (h5:((icmp ((Rat.divInt x y).den:Int) y) != 0)=false):fmay (RF.mk (rw x) (rw y))=true:=by
 have e4:(Rat.divInt x y).num=x:=icmp0.1 (by simpa using h4)
 have e5:((Rat.divInt x y).den:Int)=y:=icmp0.1 (by simpa using h5)
 have e:RF.mk (rw x) (rw y)=rf (Rat.divInt x y):=by
  show _=RF.mk (rw (Rat.divInt x y).num) (rw ((Rat.divInt x y).den:Int))
  rw [e4,e5]
 have hf:fits (RF.mk (rw x) (rw y))=true:=by
  unfold fits
  show (decide ((bS x.natAbs).size≤1024)&&decide ((bS y.natAbs).size≤1024))=true
  rw [decide_eq_true (by omega),decide_eq_true (by omega)];rfl
 unfold fmay
 rw [hf,e,fformed_rf];rfl
open Classical in
open Classical in
noncomputable def dsOk (r:RCi):Bool:=decide (∃ c,r=rci c∧cifits (rci c)=true∧c.dot c=-1)
open Classical in
open Classical in
theorem plate_eq (c:Ci):Value.bool (icmp ((c.dot c).num*((Rat.divInt (-1:Int) (1:Int)).den:Int)) ((Rat.divInt (-1:Int) (1:Int)).num*((c.dot c).den:Int)) == 0)=.bool (decide (c.dot c=-1)):=by
 rw [icmp_b,divInt_one];rfl
theorem dsOk_ex {r:RCi} (h:dsOk r=true):∃ c,r=rci c∧cifits (rci c)=true∧c.dot c=-1:=by
 unfold dsOk at h;classical exact of_decide_eq_true h
theorem dsOk_c {c:Ci} (h:dsOk (rci c)=true):cifits (rci c)=true∧c.dot c=-1:=by
 obtain ⟨d,e,h⟩:=dsOk_ex h
 obtain rfl:=rci_inj e
 exact h
theorem ci_of {r:RCi} (h1:fmay r.a=true) (h2:gmay r.b=true) (h3:fmay r.c=true):∃ c,r=rci c∧cifits (rci c)=true:=by
 obtain ⟨a,b,c⟩:=r
 obtain ⟨x,rfl⟩:=fmay_ex h1
 obtain ⟨y,rfl⟩:=gmay_ex h2
 obtain ⟨z,rfl⟩:=fmay_ex h3
 refine ⟨⟨x,y,z⟩,rfl,?_⟩
 show (fits (rf x)&&gfits (rg y)&&fits (rf z))=true
 rw [gmay_rg] at h2
 rw [(and_tt h1).1,h2,(and_tt h3).1];rfl
theorem dsOk_no {r:RCi} (h:dsOk r=false):¬ ∃ c,r=rci c∧cifits (rci c)=true∧c.dot c=-1:=by unfold dsOk at h;classical exact of_decide_eq_false h
theorem dsOk_yes {c:Ci} (h1:cifits (rci c)=true) (h2:c.dot c=-1):dsOk (rci c)=true:=by unfold dsOk;classical exact decide_eq_true ⟨c,rfl,h1,h2⟩
theorem ht_dvI {a b:Int} (h:0<b) {n:Nat} (h1:max (hi a) (hi b)≤n):ht (Rat.divInt a b)≤n+1:=by
 obtain ⟨m,rfl⟩:=Int.eq_ofNat_of_zero_le (Int.le_of_lt h)
 have e:Rat.divInt a (m:Int)=mkRat a m:=rfl
 rw [e]
 have h2:=hi_bl a
 have h3:=hi_bl (m:Int)
 rw [Int.natAbs_natCast] at h3
 exact ht_mkRat a m (by omega) (by omega) (by omega)
theorem valM_no {r:RF} (h:fmay r=false):valM r=0:=by
 unfold valM
 rw [dif_neg (by rw [h];decide)]
noncomputable def gvm (r:RG):Cx:=⟨valM r.re,valM r.im⟩
end Go.Proofs.YtcpjdjnaipbieaaGreat
namespace Go.Proofs.YtcpjdjnaipbieaaGreat
open Go.RowKit Rgn Eng
set_option maxHeartbeats 4000000
set_option maxRecDepth 100000
variable {S:Nat→Prop} {W:World}
theorem eRatF0 (r:RF) (p0:wformed r.a=false):Calls Tryz.prog 198 #[rfV r] W (RetV (.pointer none) W):=by
 refine Run.goP (S:=Z0) (Pack.nil.k (rfV r) (rfC r).toList (.s (.agg (ks 0 4)))) Tryz.func198 rfl ?_
 refine Run.cV [.bool (wformed r.a)] kb (fun _ _ _ H=>eFormed r.a) ?_
 refine Run.kn p0 ?_
 exact Run.rV rfl
theorem eRatF1 (r:RF) (p0:wformed r.a=true) (p1:wformed r.b=false):Calls Tryz.prog 198 #[rfV r] W (RetV (.pointer none) W):=by
 refine Run.goP (S:=Z0) (Pack.nil.k (rfV r) (rfC r).toList (.s (.agg (ks 0 4)))) Tryz.func198 rfl ?_
 refine Run.cV [.bool (wformed r.a)] kb (fun _ _ _ H=>eFormed r.a) ?_
 refine Run.kn p0 ?_
 refine Run.cV [.bool (wformed r.b)] kb (fun _ _ _ H=>eFormed r.b) ?_
 refine Run.kn p1 ?_
 exact Run.rV rfl
theorem eRatW (g:Int×Int) (p0:fmay (RF.mk (rw g.1) (rw g.2))=false):Calls Tryz.prog 198 #[wwV g] W (RetV (.pointer none) W):=by
 have b1:hi g.1≤8*(bS g.1.natAbs).size+1:=hi_bytes g.1
 have b2:hi g.2≤8*(bS g.2.natAbs).size+1:=hi_bytes g.2
 have b3:=hi_num (Rat.divInt g.1 g.2)
 have b4:=hi_den (Rat.divInt g.1 g.2)
 refine Run.goP (S:=Z0) (Pack.nil.k (wwV g) ((wC g.1).toList++(wC g.2).toList) (.s (.agg (ks 0 4)))) Tryz.func198 rfl ?_
 refine Run.cV [.bool (wformed (rw g.1))] kb (fun _ _ _ H=>eFormed (rw g.1)) ?_
 refine Run.kn (wformed_rw g.1) ?_
 refine Run.cV [.bool (wformed (rw g.2))] kb (fun _ _ _ H=>eFormed (rw g.2)) ?_
 refine Run.kn (wformed_rw g.2) ?_
 rcases Bool.eq_false_or_eq_true (decide (g.2<0)) with c5|c5
 · refine Run.kn c5 ?_
   exact Run.rV rfl
 refine Run.kn c5 ?_
 rcases Bool.eq_false_or_eq_true (decide (g.2.natAbs=0)) with c7|c7
 · refine Run.bi (op:=.eql) (t:=9) (a:=.string (bS g.2.natAbs)) (c:=.string ⟨#[]⟩) [] (cb true) (fun w o ρ u v t' ho hx hy=>ex_seq Tryz.underlying9 _ c7 ho hx hy) ?_
   exact Run.rV rfl
 refine Run.bi (op:=.eql) (t:=9) (a:=.string (bS g.2.natAbs)) (c:=.string ⟨#[]⟩) [] (cb false) (fun w o ρ u v t' ho hx hy=>ex_seq Tryz.underlying9 _ c7 ho hx hy) ?_
 refine Run.sl (bS g.1.natAbs) 9 Tryz.underlying9 ?_
 rcases Bool.eq_false_or_eq_true (decide (1024<(((bS g.1.natAbs).size:Nat):Int))) with c9|c9
 · refine Run.ik .gtr (((bS g.1.natAbs).size:Nat):Int) 1024 true (congrArg some c9) ?_
   exact Run.rV rfl
 refine Run.ik .gtr (((bS g.1.natAbs).size:Nat):Int) 1024 false (congrArg some c9) ?_
 refine Run.sl (bS g.2.natAbs) 9 Tryz.underlying9 ?_
 rcases Bool.eq_false_or_eq_true (decide (1024<(((bS g.2.natAbs).size:Nat):Int))) with c11|c11
 · refine Run.ik .gtr (((bS g.2.natAbs).size:Nat):Int) 1024 true (congrArg some c11) ?_
   exact Run.rV rfl
 refine Run.ik .gtr (((bS g.2.natAbs).size:Nat):Int) 1024 false (congrArg some c11) ?_
 have d5:=of_decide_eq_false c5
 have d7:=of_decide_eq_false c7
 have d9:=of_decide_eq_false c9
 have d11:=of_decide_eq_false c11
 have g0:=ht_dvI (a:=g.1) (show 0<g.2 by omega) (Nat.le_refl (max (hi g.1) (hi g.2)))
 refine Run.dr ?_
 refine RunD.cR spInto (fun _ _ _ H=>eWhole g.1 (by omega)) ?_
 refine RunD.cR spInto (fun _ _ _ H=>eWhole g.2 (by omega)) ?_
 refine RunD.en ?_
 refine Run.cO 1 softRat (fun _ _ _ H=>qSetFrac g.1 g.2 (RatP.blk (H.oz 1)) (IntO.p (anyV (H.f 0))) (IntO.p (anyV (H.f 1))) (by omega) (by omega)) ?_
 refine Run.se 1 ?_
 refine Run.cR spInto (fun _ _ _ H=>qNum (Rat.divInt g.1 g.2) (H.s 1) (by omega)) ?_
 refine Run.cV [.int .i64 (icmp (Rat.divInt g.1 g.2).num g.1)] kb (fun _ _ _ H=>bCmp (Rat.divInt g.1 g.2).num g.1 (IntO.p (H.f 3)) (IntO.p (H.f 0)) (by omega)) ?_
 rcases Bool.eq_false_or_eq_true (icmp (Rat.divInt g.1 g.2).num g.1 != 0) with c20|c20
 · refine Run.ik .neq (icmp (Rat.divInt g.1 g.2).num g.1) 0 true (congrArg some c20) ?_
   exact Run.rV rfl
 refine Run.ik .neq (icmp (Rat.divInt g.1 g.2).num g.1) 0 false (congrArg some c20) ?_
 refine Run.cR spInto (fun _ _ _ H=>qDenom (Rat.divInt g.1 g.2) (H.s 1) (by omega)) ?_
 refine Run.cV [.int .i64 (icmp ((Rat.divInt g.1 g.2).den:Int) g.2)] kb (fun _ _ _ H=>bCmp ((Rat.divInt g.1 g.2).den:Int) g.2 (IntO.p (H.f 4)) (IntO.p (H.f 1)) (by omega)) ?_
 rcases Bool.eq_false_or_eq_true (icmp ((Rat.divInt g.1 g.2).den:Int) g.2 != 0) with c22|c22
 · refine Run.ik .neq (icmp ((Rat.divInt g.1 g.2).den:Int) g.2) 0 true (congrArg some c22) ?_
   exact Run.rV rfl
 exact Bool.noConfusion ((ratw_yes d5 d7 d9 d11 c20 c22).symm.trans p0)
end Go.Proofs.YtcpjdjnaipbieaaGreat
namespace Go.Proofs.YtcpjdjnaipbieaaGreat
open Go.RowKit Rgn
theorem eRatF {W:World} (r:RF) (p0:fmay r=false):Calls Tryz.prog 198 #[rfV r] W (RetV (.pointer none) W):=by
 cases h0:wformed r.a with
 | false=>exact eRatF0 r h0
 | true =>
  cases h1:wformed r.b with
  | false=>exact eRatF1 r h0 h1
  | true =>
   obtain ⟨a,b⟩:=r
   obtain ⟨x,rfl⟩:=wformed_ex h0
   obtain ⟨y,rfl⟩:=wformed_ex h1
   exact eRatW (x,y) p0
theorem eRatT {S:Nat→Prop} {W:World} (r:RF) (p0:fmay r=true):Calls Tryz.prog 198 #[rfV r] W (Ret (RatP (valM r)) S W):=by
 obtain ⟨q,rfl⟩:=fmay_ex p0
 rw [valM_rf p0]
 exact eRatOk q (and_tt p0).1
theorem retOf {P:Program} {f:FuncId} {args:Array Value} {W:World} {v:Value} {φ:VP} {S:Nat→Prop} (h:Calls P f args W (RetV v W)) (hp:∀ w,φ.p (fun k=>S k∨W.heap.size≤k) v w):Calls P f args W (Ret φ S W) :=
 h.mono fun _ w' h=>by
  obtain ⟨h1,h2⟩:=h.is
  exact ⟨v,h1,hp w', h2⟩
theorem eRatA {S:Nat→Prop} {W:World} (r:RF):Calls Tryz.prog 198 #[rfV r] W (Ret (PtrP 0) S W):=by
 cases h:fmay r with
 | false=>exact retOf (eRatF r h) fun _=>⟨_,rfl⟩
 | true =>
  have g:=eRatT (S:=S) (W:=W) r h
  exact g.mono fun _ _ ⟨v,h1,h2,h3⟩=>⟨v,h1,RatN.ptr (RatP.n h2),h3⟩
end Go.Proofs.YtcpjdjnaipbieaaGreat
namespace Go.Proofs.YtcpjdjnaipbieaaGreat
open Go.RowKit Rgn Eng
set_option maxHeartbeats 4000000
set_option maxRecDepth 100000
variable {S:Nat→Prop} {W:World}
theorem eOfR (r:RG):Calls Tryz.prog 197 #[rgV r] W (Ret (VP.tup (NumP (gvm r)) (VP.is (.bool (gmay r)))) S W):=by
 cases c1:fmay r.re with
 | true=>cases c2:fmay r.im with
  | true =>
   refine Run.goP (S:=S) (Pack.nil.k (rgV r) (rgC r).toList (.s (.agg (ks 0 8)))) Tryz.func197 rfl ?_
   refine Run.dr ?_
   refine RunD.cR spRat (fun _ _ _ H=>eRatT r.re c1) ?_
   refine RunD.cR spRat (fun _ _ _ H=>eRatT r.im c2) ?_
   refine RunD.en ?_
   refine Run.np 0 (valM r.re) 176 .neq true (.inr ⟨rfl,rfl⟩) (fun c w=>by kernel_rfl) ?_
   refine Run.np 1 (valM r.im) 176 .neq true (.inr ⟨rfl,rfl⟩) (fun c w=>by kernel_rfl) ?_
   exact Run.rR (fun _ _ _ H=>⟨_,_,rfl,NumP.mk (RatP.n (H.f 0)) (RatP.n (H.f 1)),(by unfold gmay;rw [c1,c2];rfl)⟩)
  | false =>
   refine Run.goP (S:=S) (Pack.nil.k (rgV r) (rgC r).toList (.s (.agg (ks 0 8)))) Tryz.func197 rfl ?_
   refine Run.dr ?_
   refine RunD.cR spRat (fun _ _ _ H=>eRatT r.re c1) ?_
   refine RunD.cV [] (.s (.o (.c (.pointer none)))) (fun _ _ _ H=>eRatF r.im c2) ?_
   refine RunD.en ?_
   refine Run.np 0 (valM r.re) 176 .neq true (.inr ⟨rfl,rfl⟩) (fun c w=>by kernel_rfl) ?_
   refine Run.bi (op:=.neq) (t:=176) (a:=.pointer none) (c:=.pointer none) [] (cb false) (fun w o ρ x y t' ho hx hy=>ex_zn (fun w=>by kernel_rfl) ho hx hy) ?_
   exact Run.rR (fun _ _ _ H=>⟨_,_,rfl,NumP.mk (RatP.n (H.f 0)) (.inl ⟨rfl,valM_no c2⟩),(by unfold gmay;rw [c1,c2];rfl)⟩)
 | false=>cases c2:fmay r.im with
  | true =>
   refine Run.goP (S:=S) (Pack.nil.k (rgV r) (rgC r).toList (.s (.agg (ks 0 8)))) Tryz.func197 rfl ?_
   refine Run.dr ?_
   refine RunD.cV [] (.s (.o (.c (.pointer none)))) (fun _ _ _ H=>eRatF r.re c1) ?_
   refine RunD.cR spRat (fun _ _ _ H=>eRatT r.im c2) ?_
   refine RunD.en ?_
   refine Run.bi (op:=.neq) (t:=176) (a:=.pointer none) (c:=.pointer none) [] (cb false) (fun w o ρ x y t' ho hx hy=>ex_zn (fun w=>by kernel_rfl) ho hx hy) ?_
   exact Run.rR (fun _ _ _ H=>⟨_,_,rfl,NumP.mk (.inl ⟨rfl,valM_no c1⟩) (RatP.n (H.f 0)),(by unfold gmay;rw [c1,c2];rfl)⟩)
  | false =>
   refine Run.goP (S:=S) (Pack.nil.k (rgV r) (rgC r).toList (.s (.agg (ks 0 8)))) Tryz.func197 rfl ?_
   refine Run.dr ?_
   refine RunD.cV [] (.s (.o (.c (.pointer none)))) (fun _ _ _ H=>eRatF r.re c1) ?_
   refine RunD.cV [] (.s (.o (.c (.pointer none)))) (fun _ _ _ H=>eRatF r.im c2) ?_
   refine RunD.en ?_
   refine Run.bi (op:=.neq) (t:=176) (a:=.pointer none) (c:=.pointer none) [] (cb false) (fun w o ρ x y t' ho hx hy=>ex_zn (fun w=>by kernel_rfl) ho hx hy) ?_
   exact Run.rR (fun _ _ _ H=>⟨_,_,rfl,NumP.mk (.inl ⟨rfl,valM_no c1⟩) (.inl ⟨rfl,valM_no c2⟩),(by unfold gmay;rw [c1,c2];rfl)⟩)
end Go.Proofs.YtcpjdjnaipbieaaGreat
namespace Go.Proofs.YtcpjdjnaipbieaaGreat
open Go.RowKit Rgn
set_option maxHeartbeats 4000000
set_option maxRecDepth 100000
variable {S:Nat→Prop} {W:World}
theorem ePlateA (r:RCi) (p0:gmay r.b=false) :
  Calls Tryz.prog 210 #[rciV r] W (RetV (.tuple #[.agg #[.pointer none,.pointer none,.pointer none,.pointer none],.bool false]) W):=by
 have bel:=b0 W
 go_enter Tryz.func210,Tryz.ntmps210
 refine gs 3 (Amb Z0 W) fun _ K1=>?_
 refine .bx rfl (fun H=>H.v 0 (rciV r)) ?_
 refine .al rfl (#[.pointer none,.pointer none,.pointer none,.pointer none]) ?_
 refine .mc rfl ?_
 refine .dk (fun u=>rciV r::sq u 0 3 (us 37)) K1 bel fun u1 w1 D bel=>?_
 obtain ⟨b2,E1_0,A2,B2⟩:=D.nw 0
 obtain ⟨b3,E1_1,A3,B3⟩:=D.nw 1
 have E1_2:=D.q 2
 have N2_3:=D.n2 0 1 E1_0 E1_1
 clear D
 refine gs 9 (Amb Z0 W) fun _ K4=>?_
 refine .fz rfl 1 4 E1_0 ?_
 refine .lp rfl 0 (rgC r.b) B2 ?_
 refine .cR rfl [] Tryz.func197 (fun H=>⟨_,ar1 (H.g 9 1),eOfR _⟩) ?_
 refine .mn rfl 2 [2] ?_
 refine Go2.fn (i:=4) rfl (G0 rfl) (.val 4 [2,3] (NumP (gvm r.b))) (fun u μ ρ H=>by have e7:=H.r 7 3;have h0:=(H.a 3 rfl);obtain ⟨x0,x1,h1,h2⟩:=h0;rw [h1] at e7;exact ⟨x0,by clear H;go_simp,SP.tupKeep (by decide) (by decide) h2.1⟩) ?_
 refine .e rfl (V:=.bool (gmay r.b)) (fun H=>by have e7:=H.r 7 3;have h0:=(H.a 3 rfl);obtain ⟨x0,x1,h1,h2,h3⟩:=h0;rw [h1] at e7;have h3:x1=.bool (gmay r.b):=h3;subst h3;clear H;go_simp) ?_
 refine .al rfl (#[.pointer none,.pointer none]) ?_
 refine Go2.storeOwn (i:=7) (m:=6) rfl rfl (.head _) (SP.cells 6 [4] (fun u=>#[((u 4).v.cells.getD 0 undef),((u 4).v.cells.getD 1 undef)]) 178 (by intro u u' h;simp [h 4 (by simp)])) (fun u μ ρ b H h0 hB hb=>?_) ?_
 · have e4:=H.r 4 6;have e11:=H.r 11 4
   rw [h0] at e4
   obtain ⟨x1,x2,h1,h2,h3⟩:=(H.a 4 rfl)
   have o1:=VP1.ratn h2
   have o2:=VP1.ratn h3
   rw [h1] at e11
   refine ⟨μ.setRow b #[x1,x2],ex_store_row 178 _ _ rfl e4 e11 hb (by kernel_rfl) rfl (by simp [o1,o2]),fun g=>⟨b,?_,hB,?_⟩,setRow_only _ _ _⟩
   · rw [upd_other _ _ (by decide)];exact h0
   · rw [setRow_at hb];try simp [upd,h1,Value.cells]
 refine .e rfl (V:=.bool false) (fun H=>by have e12:=H.g 12 5;have k_:=p0;clear H;go_simp<;>first|(simp_all;done)|omega|exact len_gt z0_) ?_
 refine .dk (fun u=>rciV r::sq u1 0 3 (u 6::u 8::U::u 3::sq u 0 3 (u 4::u 5::us 28))) K4 bel fun u2 w2 D bel=>?_
 obtain ⟨x5,x6,E2_4,F_x5,F_x6⟩:=(D.rr 4)
 obtain ⟨b7,E2_6,A7,B7⟩:=(D.a 7 rfl)
 replace A7:=le2 D.le A7
 have E2_8:=D.q 8
 have N3_7:=D.n1 6 (lt_of B3) E2_6
 replace B2:=D.k B2
 replace B3:=D.k B3
 simp only [Value.cells,E2_4,E2_6] at B7
 replace B7:w2.heap[b7]? = some (.cells #[x5,x6] 178 (0,0)):=B7
 clear D
 refine gd 10 (Amb Z0 W) fun _ K8=>?_
 refine .fz rfl 1 0 E1_0 ?_
 refine .lp rfl 0 (rfC r.a) B2 ?_
 refine .cR rfl [] Tryz.func198 (fun H=>⟨_,ar1 (H.g 14 1),eRatA _⟩) ?_
 refine .lr rfl 4 E2_6 B7 ?_
 refine .fz rfl 1 12 E1_0 ?_
 refine .lp rfl 4 (rfC r.c) B2 ?_
 refine .cR rfl [] Tryz.func198 (fun H=>⟨_,ar1 (H.g 18 5),eRatA _⟩) ?_
 refine Go2.fn (i:=7) rfl (G0 rfl) (SP.fnL 7 [2,6] (fun u=>.agg #[(u 2).v,x5,x6,(u 6).v]) (by intro u u' h;simp [h 2 (by simp),h 6 (by simp)])) (fun u μ ρ H=>⟨_,by have e15:=H.r 15 2;have e16:=H.g 16 3;have e19:=H.r 19 6;obtain ⟨x2,h2⟩:=PtrP.isPtr (H.a 2 rfl);obtain ⟨x6,h6⟩:=PtrP.isPtr (H.a 6 rfl);clear H;go_simp,SP.fnL_upd (by decide)⟩) ?_
 refine .al rfl (#[.pointer none,.pointer none,.pointer none,.pointer none]) ?_
 refine Go2.storeOwn (i:=9) (m:=8) rfl rfl (.head _) (SP.cells 8 [2,6] (fun u=>#[(u 2).v,x5,x6,(u 6).v]) 180 (by intro u u' h;simp [h 2 (by simp),h 6 (by simp)])) (fun u μ ρ b H h0 hB hb=>?_) ?_
 · have e6:=H.r 6 8;have e20:=H.e 20 7 (by kernel_rfl) (H.a 7 rfl);have o2:=VP1.ptr (H.a 2 rfl);have o_x5:=VP1.ratn F_x5;have o_x6:=VP1.ratn F_x6;have o6:=VP1.ptr (H.a 6 rfl)
   rw [h0] at e6
   refine ⟨μ.setRow b #[(u 2).v,x5,x6,(u 6).v],ex_store_row 180 _ _ rfl e6 e20 hb (by kernel_rfl) rfl (by simp [o2,o_x5,o_x6,o6]<;>rfl),fun g=>⟨b,?_,hB,?_⟩,setRow_only _ _ _⟩
   · rw [upd_other _ _ (by decide)];exact h0
   · rw [setRow_at hb];try simp [upd]
 refine .dk (fun u=>rciV r::sq u1 0 3 (u2 6::u2 8::u 8::u2 3::sq u2 0 3 (u2 4::u2 5::sq u 0 8 (us 20)))) K8 bel fun u3 w3 D bel=>?_
 obtain ⟨x9,E3_2,F_x9⟩:∃ x_,(u3 2).v=x_∧(PtrP 0).p (Amb Z0 W) x_ w3:=⟨_,rfl,D.rr 2⟩
 obtain ⟨x10,E3_6,F_x10⟩:∃ x_,(u3 6).v=x_∧(PtrP 0).p (Amb Z0 W) x_ w3:=⟨_,rfl,D.rr 6⟩
 obtain ⟨b11,E3_8,A11,B11⟩:=(D.a 9 rfl)
 replace A11:=le2 D.le A11
 have N3_11:=D.n1 8 (lt_of B3) E3_8
 replace B3:=D.k B3
 simp only [Value.cells,E3_2,E3_6,E3_8] at B11
 replace F_x5:=D.gr (RatN ((gvm r.b).re)) F_x5
 replace F_x6:=D.gr (RatN ((gvm r.b).im)) F_x6
 clear D
 refine wp_seq_k fun _ K12=>?_
 refine gs 12 (Amb Z0 W) fun _ K13=>?_
 refine .mz rfl 5 E2_8 ?_
 refine .e rfl (V:=.bool true) (fun H=>x_not (H.g 21 0)) ?_
 refine .mv rfl 1 ?_
 refine .sk rfl 2 ?_
 refine .sk rfl 2 ?_
 refine .sk rfl 2 ?_
 refine .e rfl (fun H=>x_pkT (H.g 23 2) (H.c _)) ?_
 refine .mv rfl 6 ?_
 refine .sk rfl 7 ?_
 refine .sk rfl 7 ?_
 refine .sk rfl 7 ?_
 refine .e rfl (fun H=>x_pkT (H.g 28 7) (H.c _)) ?_
 refine .dk (fun u=>rciV r::sq u1 0 3 (u2 6::u2 8::u3 8::u2 3::sq u2 0 3 (u2 4::u2 5::sq u3 0 8 (sq u 0 12 (us 8))))) K13 bel fun u4 w4 D bel=>?_
 have E4_11:=D.q 11
 replace B3:=D.k B3
 replace B11:=D.k B11
 replace F_x5:=D.gr (RatN ((gvm r.b).re)) F_x5
 replace F_x6:=D.gr (RatN ((gvm r.b).im)) F_x6
 replace F_x9:=D.gr (PtrP 0) F_x9
 replace F_x10:=D.gr (PtrP 0) F_x10
 clear D
 refine wp_cond_true (by exact E4_11) ?_
 refine gs1 3 (Amb Z0 W) 1 B3 fun _ K14=>?_
 refine .e rfl (V:=.agg #[.pointer none,.pointer none,.pointer none,.pointer none]) (fun H=>by clear H;go_simp) ?_
 refine .s1 rfl B3 (fun H=>⟨H.z 2 E1_1,H.g 33 0⟩) ?_
 refine .mc rfl ?_
 refine .d1 (fun u=>rciV r::u1 0::u1 1::u 2::u2 6::u2 8::u3 8::u2 3::sq u2 0 3 (u2 4::u2 5::sq u3 0 8 (sq u4 0 12 (u 0::us 7)))) K14 bel A3 fun u5 w5 D bel=>?_
 have E5_2:=D.q 2
 replace B3:=D.ol 1
 clear D
 refine wp_ret ?_
 refine ret_ok rfl (by exact results_mix rfl (by exact E1_1) B3 Tryz.underlying180 rfl (by kernel_rfl) (by exact E5_2)) (RetV.mk ?_ bel)
 exact congrArg Ending.returned (rfl)
theorem ePlateB (r:RCi) (p0:gmay r.b=true) (p1:fmay r.a=false) :
  Calls Tryz.prog 210 #[rciV r] W (RetV (.tuple #[.agg #[.pointer none,.pointer none,.pointer none,.pointer none],.bool false]) W):=by
 have bel:=b0 W
 go_enter Tryz.func210,Tryz.ntmps210
 refine gs 3 (Amb Z0 W) fun _ K1=>?_
 refine .bx rfl (fun H=>H.v 0 (rciV r)) ?_
 refine .al rfl (#[.pointer none,.pointer none,.pointer none,.pointer none]) ?_
 refine .mc rfl ?_
 refine .dk (fun u=>rciV r::sq u 0 3 (us 37)) K1 bel fun u1 w1 D bel=>?_
 obtain ⟨b2,E1_0,A2,B2⟩:=D.nw 0
 obtain ⟨b3,E1_1,A3,B3⟩:=D.nw 1
 have E1_2:=D.q 2
 have N2_3:=D.n2 0 1 E1_0 E1_1
 clear D
 refine gs 9 (Amb Z0 W) fun _ K4=>?_
 refine .fz rfl 1 4 E1_0 ?_
 refine .lp rfl 0 (rgC r.b) B2 ?_
 refine .cR rfl [] Tryz.func197 (fun H=>⟨_,ar1 (H.g 9 1),eOfR _⟩) ?_
 refine .mn rfl 2 [2] ?_
 refine Go2.fn (i:=4) rfl (G0 rfl) (.val 4 [2,3] (NumP (gvm r.b))) (fun u μ ρ H=>by have e7:=H.r 7 3;have h0:=(H.a 3 rfl);obtain ⟨x0,x1,h1,h2⟩:=h0;rw [h1] at e7;exact ⟨x0,by clear H;go_simp,SP.tupKeep (by decide) (by decide) h2.1⟩) ?_
 refine .e rfl (V:=.bool (gmay r.b)) (fun H=>by have e7:=H.r 7 3;have h0:=(H.a 3 rfl);obtain ⟨x0,x1,h1,h2,h3⟩:=h0;rw [h1] at e7;have h3:x1=.bool (gmay r.b):=h3;subst h3;clear H;go_simp) ?_
 refine .al rfl (#[.pointer none,.pointer none]) ?_
 refine Go2.storeOwn (i:=7) (m:=6) rfl rfl (.head _) (SP.cells 6 [4] (fun u=>#[((u 4).v.cells.getD 0 undef),((u 4).v.cells.getD 1 undef)]) 178 (by intro u u' h;simp [h 4 (by simp)])) (fun u μ ρ b H h0 hB hb=>?_) ?_
 · have e4:=H.r 4 6;have e11:=H.r 11 4
   rw [h0] at e4
   obtain ⟨x1,x2,h1,h2,h3⟩:=(H.a 4 rfl)
   have o1:=VP1.ratn h2
   have o2:=VP1.ratn h3
   rw [h1] at e11
   refine ⟨μ.setRow b #[x1,x2],ex_store_row 178 _ _ rfl e4 e11 hb (by kernel_rfl) rfl (by simp [o1,o2]),fun g=>⟨b,?_,hB,?_⟩,setRow_only _ _ _⟩
   · rw [upd_other _ _ (by decide)];exact h0
   · rw [setRow_at hb];try simp [upd,h1,Value.cells]
 refine .e rfl (V:=.bool true) (fun H=>by have e12:=H.g 12 5;have k_:=p0;clear H;go_simp<;>first|(simp_all;done)|omega|exact len_gt z0_) ?_
 refine .dk (fun u=>rciV r::sq u1 0 3 (u 6::u 8::U::u 3::sq u 0 3 (u 4::u 5::us 28))) K4 bel fun u2 w2 D bel=>?_
 obtain ⟨x5,x6,E2_4,F_x5,F_x6⟩:=(D.rr 4)
 obtain ⟨b7,E2_6,A7,B7⟩:=(D.a 7 rfl)
 replace A7:=le2 D.le A7
 have E2_8:=D.q 8
 have N3_7:=D.n1 6 (lt_of B3) E2_6
 replace B2:=D.k B2
 replace B3:=D.k B3
 simp only [Value.cells,E2_4,E2_6] at B7
 replace B7:w2.heap[b7]? = some (.cells #[x5,x6] 178 (0,0)):=B7
 clear D
 refine gd 10 (Amb Z0 W) fun _ K8=>?_
 refine .fz rfl 1 0 E1_0 ?_
 refine .lp rfl 0 (rfC r.a) B2 ?_
 refine .cK rfl Tryz.func198 (fun H=>⟨_,ar1 (H.g 14 1),eRatF _ (by first|assumption|omega)⟩) ?_
 refine .lr rfl 4 E2_6 B7 ?_
 refine .fz rfl 1 12 E1_0 ?_
 refine .lp rfl 4 (rfC r.c) B2 ?_
 refine .cR rfl [] Tryz.func198 (fun H=>⟨_,ar1 (H.g 18 5),eRatA _⟩) ?_
 refine Go2.fn (i:=7) rfl (G0 rfl) (SP.fnL 7 [6] (fun u=>.agg #[.pointer none,x5,x6,(u 6).v]) (by intro u u' h;simp [h 6 (by simp)])) (fun u μ ρ H=>⟨_,by have e15:=H.g 15 2;have e16:=H.g 16 3;have e19:=H.r 19 6;obtain ⟨x6,h6⟩:=PtrP.isPtr (H.a 6 rfl);clear H;go_simp,SP.fnL_upd (by decide)⟩) ?_
 refine .al rfl (#[.pointer none,.pointer none,.pointer none,.pointer none]) ?_
 refine Go2.storeOwn (i:=9) (m:=8) rfl rfl (.head _) (SP.cells 8 [6] (fun u=>#[.pointer none,x5,x6,(u 6).v]) 180 (by intro u u' h;simp [h 6 (by simp)])) (fun u μ ρ b H h0 hB hb=>?_) ?_
 · have e6:=H.r 6 8;have e20:=H.e 20 7 (by kernel_rfl) (H.a 7 rfl);have o_x5:=VP1.ratn F_x5;have o_x6:=VP1.ratn F_x6;have o6:=VP1.ptr (H.a 6 rfl)
   rw [h0] at e6
   refine ⟨μ.setRow b #[.pointer none,x5,x6,(u 6).v],ex_store_row 180 _ _ rfl e6 e20 hb (by kernel_rfl) rfl (by simp [o_x5,o_x6,o6]<;>rfl),fun g=>⟨b,?_,hB,?_⟩,setRow_only _ _ _⟩
   · rw [upd_other _ _ (by decide)];exact h0
   · rw [setRow_at hb];try simp [upd]
 refine .dk (fun u=>rciV r::sq u1 0 3 (u2 6::u2 8::u 8::u2 3::sq u2 0 3 (u2 4::u2 5::sq u 0 8 (us 20)))) K8 bel fun u3 w3 D bel=>?_
 obtain ⟨x9,E3_6,F_x9⟩:∃ x_,(u3 6).v=x_∧(PtrP 0).p (Amb Z0 W) x_ w3:=⟨_,rfl,D.rr 6⟩
 obtain ⟨b10,E3_8,A10,B10⟩:=(D.a 9 rfl)
 replace A10:=le2 D.le A10
 have N3_10:=D.n1 8 (lt_of B3) E3_8
 replace B3:=D.k B3
 simp only [Value.cells,E3_6,E3_8] at B10
 replace F_x5:=D.gr (RatN ((gvm r.b).re)) F_x5
 replace F_x6:=D.gr (RatN ((gvm r.b).im)) F_x6
 clear D
 refine wp_seq_k fun _ K11=>?_
 refine gs 12 (Amb Z0 W) fun _ K12=>?_
 refine .mz rfl 5 E2_8 ?_
 refine .e rfl (V:=.bool false) (fun H=>x_not (H.g 21 0)) ?_
 refine .mv rfl 1 ?_
 refine .fz rfl 6 0 E3_8 ?_ (hg:=gq 2 rfl)
 refine .lc rfl 3 B10 ?_ (V:=.pointer none) (hg:=gq 2 rfl)
 refine .e rfl (V:=.bool true) (fun H=>x_nnE (H.g 25 4) (H.c _)) ?_ (hg:=gq 2 rfl)
 refine .e rfl (fun H=>x_pkF (H.g 23 2) (H.g 26 5)) ?_
 refine .mv rfl 6 ?_
 refine .sk rfl 7 ?_
 refine .sk rfl 7 ?_
 refine .sk rfl 7 ?_
 refine .e rfl (fun H=>x_pkT (H.g 28 7) (H.c _)) ?_
 refine .dk (fun u=>rciV r::sq u1 0 3 (u2 6::u2 8::u3 8::u2 3::sq u2 0 3 (u2 4::u2 5::sq u3 0 8 (sq u 0 12 (us 8))))) K12 bel fun u4 w4 D bel=>?_
 have E4_11:=D.q 11
 replace B3:=D.k B3
 replace B10:=D.k B10
 replace F_x5:=D.gr (RatN ((gvm r.b).re)) F_x5
 replace F_x6:=D.gr (RatN ((gvm r.b).im)) F_x6
 replace F_x9:=D.gr (PtrP 0) F_x9
 clear D
 refine wp_cond_true (by exact E4_11) ?_
 refine gs1 3 (Amb Z0 W) 1 B3 fun _ K13=>?_
 refine .e rfl (V:=.agg #[.pointer none,.pointer none,.pointer none,.pointer none]) (fun H=>by clear H;go_simp) ?_
 refine .s1 rfl B3 (fun H=>⟨H.z 2 E1_1,H.g 33 0⟩) ?_
 refine .mc rfl ?_
 refine .d1 (fun u=>rciV r::u1 0::u1 1::u 2::u2 6::u2 8::u3 8::u2 3::sq u2 0 3 (u2 4::u2 5::sq u3 0 8 (sq u4 0 12 (u 0::us 7)))) K13 bel A3 fun u5 w5 D bel=>?_
 have E5_2:=D.q 2
 replace B3:=D.ol 1
 clear D
 refine wp_ret ?_
 refine ret_ok rfl (by exact results_mix rfl (by exact E1_1) B3 Tryz.underlying180 rfl (by kernel_rfl) (by exact E5_2)) (RetV.mk ?_ bel)
 exact congrArg Ending.returned (rfl)
theorem ePlateC (r:RCi) (p0:gmay r.b=true) (p1:fmay r.a=true) (p2:fmay r.c=false) :
  Calls Tryz.prog 210 #[rciV r] W (RetV (.tuple #[.agg #[.pointer none,.pointer none,.pointer none,.pointer none],.bool false]) W):=by
 have bel:=b0 W
 go_enter Tryz.func210,Tryz.ntmps210
 refine gs 3 (Amb Z0 W) fun _ K1=>?_
 refine .bx rfl (fun H=>H.v 0 (rciV r)) ?_
 refine .al rfl (#[.pointer none,.pointer none,.pointer none,.pointer none]) ?_
 refine .mc rfl ?_
 refine .dk (fun u=>rciV r::sq u 0 3 (us 37)) K1 bel fun u1 w1 D bel=>?_
 obtain ⟨b2,E1_0,A2,B2⟩:=D.nw 0
 obtain ⟨b3,E1_1,A3,B3⟩:=D.nw 1
 have E1_2:=D.q 2
 have N2_3:=D.n2 0 1 E1_0 E1_1
 clear D
 refine gs 9 (Amb Z0 W) fun _ K4=>?_
 refine .fz rfl 1 4 E1_0 ?_
 refine .lp rfl 0 (rgC r.b) B2 ?_
 refine .cR rfl [] Tryz.func197 (fun H=>⟨_,ar1 (H.g 9 1),eOfR _⟩) ?_
 refine .mn rfl 2 [2] ?_
 refine Go2.fn (i:=4) rfl (G0 rfl) (.val 4 [2,3] (NumP (gvm r.b))) (fun u μ ρ H=>by have e7:=H.r 7 3;have h0:=(H.a 3 rfl);obtain ⟨x0,x1,h1,h2⟩:=h0;rw [h1] at e7;exact ⟨x0,by clear H;go_simp,SP.tupKeep (by decide) (by decide) h2.1⟩) ?_
 refine .e rfl (V:=.bool (gmay r.b)) (fun H=>by have e7:=H.r 7 3;have h0:=(H.a 3 rfl);obtain ⟨x0,x1,h1,h2,h3⟩:=h0;rw [h1] at e7;have h3:x1=.bool (gmay r.b):=h3;subst h3;clear H;go_simp) ?_
 refine .al rfl (#[.pointer none,.pointer none]) ?_
 refine Go2.storeOwn (i:=7) (m:=6) rfl rfl (.head _) (SP.cells 6 [4] (fun u=>#[((u 4).v.cells.getD 0 undef),((u 4).v.cells.getD 1 undef)]) 178 (by intro u u' h;simp [h 4 (by simp)])) (fun u μ ρ b H h0 hB hb=>?_) ?_
 · have e4:=H.r 4 6;have e11:=H.r 11 4
   rw [h0] at e4
   obtain ⟨x1,x2,h1,h2,h3⟩:=(H.a 4 rfl)
   have o1:=VP1.ratn h2
   have o2:=VP1.ratn h3
   rw [h1] at e11
   refine ⟨μ.setRow b #[x1,x2],ex_store_row 178 _ _ rfl e4 e11 hb (by kernel_rfl) rfl (by simp [o1,o2]),fun g=>⟨b,?_,hB,?_⟩,setRow_only _ _ _⟩
   · rw [upd_other _ _ (by decide)];exact h0
   · rw [setRow_at hb];try simp [upd,h1,Value.cells]
 refine .e rfl (V:=.bool true) (fun H=>by have e12:=H.g 12 5;have k_:=p0;clear H;go_simp<;>first|(simp_all;done)|omega|exact len_gt z0_) ?_
 refine .dk (fun u=>rciV r::sq u1 0 3 (u 6::u 8::U::u 3::sq u 0 3 (u 4::u 5::us 28))) K4 bel fun u2 w2 D bel=>?_
 obtain ⟨x5,x6,E2_4,F_x5,F_x6⟩:=(D.rr 4)
 obtain ⟨b7,E2_6,A7,B7⟩:=(D.a 7 rfl)
 replace A7:=le2 D.le A7
 have E2_8:=D.q 8
 have N3_7:=D.n1 6 (lt_of B3) E2_6
 replace B2:=D.k B2
 replace B3:=D.k B3
 simp only [Value.cells,E2_4,E2_6] at B7
 replace B7:w2.heap[b7]? = some (.cells #[x5,x6] 178 (0,0)):=B7
 clear D
 refine gd 10 (Amb Z0 W) fun _ K8=>?_
 refine .fz rfl 1 0 E1_0 ?_
 refine .lp rfl 0 (rfC r.a) B2 ?_
 refine .cR rfl [] Tryz.func198 (fun H=>⟨_,ar1 (H.g 14 1),eRatT _ (by first|assumption|omega)⟩) ?_
 refine .lr rfl 4 E2_6 B7 ?_
 refine .fz rfl 1 12 E1_0 ?_
 refine .lp rfl 4 (rfC r.c) B2 ?_
 refine .cK rfl Tryz.func198 (fun H=>⟨_,ar1 (H.g 18 5),eRatF _ (by first|assumption|omega)⟩) ?_
 refine Go2.fn (i:=7) rfl (G0 rfl) (SP.fnL 7 [2] (fun u=>.agg #[(u 2).v,x5,x6,.pointer none]) (by intro u u' h;simp [h 2 (by simp)])) (fun u μ ρ H=>⟨_,by have e15:=H.r 15 2;have e16:=H.g 16 3;have e19:=H.g 19 6;obtain ⟨x2,h2⟩:=RatP.isPtr (H.a 2 rfl);clear H;go_simp,SP.fnL_upd (by decide)⟩) ?_
 refine .al rfl (#[.pointer none,.pointer none,.pointer none,.pointer none]) ?_
 refine Go2.storeOwn (i:=9) (m:=8) rfl rfl (.head _) (SP.cells 8 [2] (fun u=>#[(u 2).v,x5,x6,.pointer none]) 180 (by intro u u' h;simp [h 2 (by simp)])) (fun u μ ρ b H h0 hB hb=>?_) ?_
 · have e6:=H.r 6 8;have e20:=H.e 20 7 (by kernel_rfl) (H.a 7 rfl);have o2:=VP1.rat (H.a 2 rfl);have o_x5:=VP1.ratn F_x5;have o_x6:=VP1.ratn F_x6
   rw [h0] at e6
   refine ⟨μ.setRow b #[(u 2).v,x5,x6,.pointer none],ex_store_row 180 _ _ rfl e6 e20 hb (by kernel_rfl) rfl (by simp [o2,o_x5,o_x6]<;>rfl),fun g=>⟨b,?_,hB,?_⟩,setRow_only _ _ _⟩
   · rw [upd_other _ _ (by decide)];exact h0
   · rw [setRow_at hb];try simp [upd]
 refine .dk (fun u=>rciV r::sq u1 0 3 (u2 6::u2 8::u 8::u2 3::sq u2 0 3 (u2 4::u2 5::sq u 0 8 (us 20)))) K8 bel fun u3 w3 D bel=>?_
 obtain ⟨b9,E3_2,L9,F9⟩:=RatP.elim (D.rr 2)
 obtain ⟨b10,E3_8,A10,B10⟩:=(D.a 9 rfl)
 replace A10:=le2 D.le A10
 have N3_10:=D.n1 8 (lt_of B3) E3_8
 replace B3:=D.k B3
 simp only [Value.cells,E3_2,E3_8] at B10
 replace F_x5:=D.gr (RatN ((gvm r.b).re)) F_x5
 replace F_x6:=D.gr (RatN ((gvm r.b).im)) F_x6
 clear D
 refine wp_seq_k fun _ K11=>?_
 refine gs 12 (Amb Z0 W) fun _ K12=>?_
 refine .mz rfl 5 E2_8 ?_
 refine .e rfl (V:=.bool false) (fun H=>x_not (H.g 21 0)) ?_
 refine .mv rfl 1 ?_
 refine .fz rfl 6 0 E3_8 ?_ (hg:=gq 2 rfl)
 refine .lc rfl 3 B10 ?_ (V:=pt b9) (hg:=gq 2 rfl)
 refine .e rfl (V:=.bool false) (fun H=>x_pnE (H.g 25 4) (H.c _)) ?_ (hg:=gq 2 rfl)
 refine .e rfl (fun H=>x_pkF (H.g 23 2) (H.g 26 5)) ?_
 refine .mv rfl 6 ?_
 refine .fz rfl 6 3 E3_8 ?_ (hg:=gq 7 rfl)
 refine .lc rfl 8 B10 ?_ (V:=.pointer none) (hg:=gq 7 rfl)
 refine .e rfl (V:=.bool true) (fun H=>x_nnE (H.g 30 9) (H.c _)) ?_ (hg:=gq 7 rfl)
 refine .e rfl (fun H=>x_pkF (H.g 28 7) (H.g 31 10)) ?_
 refine .dk (fun u=>rciV r::sq u1 0 3 (u2 6::u2 8::u3 8::u2 3::sq u2 0 3 (u2 4::u2 5::sq u3 0 8 (sq u 0 12 (us 8))))) K12 bel fun u4 w4 D bel=>?_
 have E4_11:=D.q 11
 replace B3:=D.k B3
 replace B10:=D.k B10
 replace F9:=D.o L9 F9
 replace F_x5:=D.gr (RatN ((gvm r.b).re)) F_x5
 replace F_x6:=D.gr (RatN ((gvm r.b).im)) F_x6
 clear D
 refine wp_cond_true (by exact E4_11) ?_
 refine gs1 3 (Amb Z0 W) 1 B3 fun _ K13=>?_
 refine .e rfl (V:=.agg #[.pointer none,.pointer none,.pointer none,.pointer none]) (fun H=>by clear H;go_simp) ?_
 refine .s1 rfl B3 (fun H=>⟨H.z 2 E1_1,H.g 33 0⟩) ?_
 refine .mc rfl ?_
 refine .d1 (fun u=>rciV r::u1 0::u1 1::u 2::u2 6::u2 8::u3 8::u2 3::sq u2 0 3 (u2 4::u2 5::sq u3 0 8 (sq u4 0 12 (u 0::us 7)))) K13 bel A3 fun u5 w5 D bel=>?_
 have E5_2:=D.q 2
 replace B3:=D.ol 1
 clear D
 refine wp_ret ?_
 refine ret_ok rfl (by exact results_mix rfl (by exact E1_1) B3 Tryz.underlying180 rfl (by kernel_rfl) (by exact E5_2)) (RetV.mk ?_ bel)
 exact congrArg Ending.returned (rfl)
theorem ePlateY (c:Ci) (p0:cifits (rci c)=true) :
  Calls Tryz.prog 210 #[ciV c] W (Ret (VP.tup (RingP c) (VP.is (.bool (decide (c.dot c=-1))))) S W):=by
 have f:=cifits_ht p0
 have h1:=dot_ht c c
 have z2:ht (Rat.divInt (-1:Int) (1:Int))=2:=by decide
 have bel:=b0 W
 go_enter Tryz.func210,Tryz.ntmps210
 refine gs 3 (Amb S W) fun _ K1=>?_
 refine .bx rfl (fun H=>H.v 0 (ciV c)) ?_
 refine .al rfl (#[.pointer none,.pointer none,.pointer none,.pointer none]) ?_
 refine .mc rfl ?_
 refine .dk (fun u=>ciV c::sq u 0 3 (us 37)) K1 bel fun u1 w1 D bel=>?_
 obtain ⟨b2,E1_0,A2,B2⟩:=D.nw 0
 obtain ⟨b3,E1_1,A3,B3⟩:=D.nw 1
 have E1_2:=D.q 2
 have N2_3:=D.n2 0 1 E1_0 E1_1
 clear D
 refine gs 9 (Amb S W) fun _ K4=>?_
 refine .fz rfl 1 4 E1_0 ?_
 refine .lp rfl 0 (gC c.b) B2 ?_
 refine .cR rfl [] Tryz.func197 (fun H=>⟨_,ar1 (H.g 9 1),eOf _ (by first|omega|exact (and_3 p0).1|exact (and_3 p0).2.1|exact (and_3 p0).2.2|exact pos_flat p1)⟩) ?_
 refine .mn rfl 2 [2] ?_
 refine Go2.fn (i:=4) rfl (G0 rfl) (.val 4 [2,3] (NumP c.b)) (fun u μ ρ H=>by have e7:=H.r 7 3;have h0:=(H.a 3 rfl);obtain ⟨x0,x1,h1,h2⟩:=h0;rw [h1] at e7;exact ⟨x0,by clear H;go_simp,SP.tupKeep (by decide) (by decide) h2.1⟩) ?_
 refine .e rfl (V:=.bool true) (fun H=>by have e7:=H.r 7 3;have h0:=(H.a 3 rfl);obtain ⟨x0,x1,h1,h2,h3⟩:=h0;rw [h1] at e7;have h3:x1=.bool true:=h3;subst h3;clear H;go_simp) ?_
 refine .al rfl (#[.pointer none,.pointer none]) ?_
 refine Go2.storeOwn (i:=7) (m:=6) rfl rfl (.head _) (SP.cells 6 [4] (fun u=>#[((u 4).v.cells.getD 0 undef),((u 4).v.cells.getD 1 undef)]) 178 (by intro u u' h;simp [h 4 (by simp)])) (fun u μ ρ b H h0 hB hb=>?_) ?_
 · have e4:=H.r 4 6;have e11:=H.r 11 4
   rw [h0] at e4
   obtain ⟨x1,x2,h1,h2,h3⟩:=(H.a 4 rfl)
   have o1:=VP1.ratn h2
   have o2:=VP1.ratn h3
   rw [h1] at e11
   refine ⟨μ.setRow b #[x1,x2],ex_store_row 178 _ _ rfl e4 e11 hb (by kernel_rfl) rfl (by simp [o1,o2]),fun g=>⟨b,?_,hB,?_⟩,setRow_only _ _ _⟩
   · rw [upd_other _ _ (by decide)];exact h0
   · rw [setRow_at hb];try simp [upd,h1,Value.cells]
 refine .mv rfl 5 ?_
 refine .dk (fun u=>ciV c::sq u1 0 3 (u 6::u 8::U::u 3::sq u 0 3 (u 4::u 5::us 28))) K4 bel fun u2 w2 D bel=>?_
 obtain ⟨x5,x6,E2_4,F_x5,F_x6⟩:=(D.rr 4)
 obtain ⟨b7,E2_6,A7,B7⟩:=(D.a 7 rfl)
 replace A7:=le2 D.le A7
 have E2_8:=D.q 8
 have N3_7:=D.n1 6 (lt_of B3) E2_6
 replace B2:=D.k B2
 replace B3:=D.k B3
 simp only [Value.cells,E2_4,E2_6] at B7
 replace B7:w2.heap[b7]? = some (.cells #[x5,x6] 178 (0,0)):=B7
 clear D
 refine gd 10 (Amb S W) fun _ K8=>?_
 refine .fz rfl 1 0 E1_0 ?_
 refine .lp rfl 0 (fC c.a) B2 ?_
 refine .cR rfl [] Tryz.func198 (fun H=>⟨_,ar1 (H.g 14 1),eRatOk _ (by first|omega|exact (and_3 p0).1|exact (and_3 p0).2.1|exact (and_3 p0).2.2|exact pos_flat p1)⟩) ?_
 refine .lr rfl 4 E2_6 B7 ?_
 refine .fz rfl 1 12 E1_0 ?_
 refine .lp rfl 4 (fC c.c) B2 ?_
 refine .cR rfl [] Tryz.func198 (fun H=>⟨_,ar1 (H.g 18 5),eRatOk _ (by first|omega|exact (and_3 p0).1|exact (and_3 p0).2.1|exact (and_3 p0).2.2|exact pos_flat p1)⟩) ?_
 refine Go2.fn (i:=7) rfl (G0 rfl) (SP.fnL 7 [2,6] (fun u=>.agg #[(u 2).v,x5,x6,(u 6).v]) (by intro u u' h;simp [h 2 (by simp),h 6 (by simp)])) (fun u μ ρ H=>⟨_,by have e15:=H.r 15 2;have e16:=H.g 16 3;have e19:=H.r 19 6;obtain ⟨x2,h2⟩:=RatP.isPtr (H.a 2 rfl);obtain ⟨x6,h6⟩:=RatP.isPtr (H.a 6 rfl);clear H;go_simp,SP.fnL_upd (by decide)⟩) ?_
 refine .al rfl (#[.pointer none,.pointer none,.pointer none,.pointer none]) ?_
 refine Go2.storeOwn (i:=9) (m:=8) rfl rfl (.head _) (SP.cells 8 [2,6] (fun u=>#[(u 2).v,x5,x6,(u 6).v]) 180 (by intro u u' h;simp [h 2 (by simp),h 6 (by simp)])) (fun u μ ρ b H h0 hB hb=>?_) ?_
 · have e6:=H.r 6 8;have e20:=H.e 20 7 (by kernel_rfl) (H.a 7 rfl);have o2:=VP1.rat (H.a 2 rfl);have o_x5:=VP1.ratn F_x5;have o_x6:=VP1.ratn F_x6;have o6:=VP1.rat (H.a 6 rfl)
   rw [h0] at e6
   refine ⟨μ.setRow b #[(u 2).v,x5,x6,(u 6).v],ex_store_row 180 _ _ rfl e6 e20 hb (by kernel_rfl) rfl (by simp [o2,o_x5,o_x6,o6]<;>rfl),fun g=>⟨b,?_,hB,?_⟩,setRow_only _ _ _⟩
   · rw [upd_other _ _ (by decide)];exact h0
   · rw [setRow_at hb];try simp [upd]
 refine .dk (fun u=>ciV c::sq u1 0 3 (u2 6::u2 8::u 8::u2 3::sq u2 0 3 (u2 4::u2 5::sq u 0 8 (us 20)))) K8 bel fun u3 w3 D bel=>?_
 obtain ⟨b9,E3_2,L9,F9⟩:=RatP.elim (D.rr 2)
 obtain ⟨b10,E3_6,L10,F10⟩:=RatP.elim (D.rr 6)
 obtain ⟨b11,E3_8,A11,B11⟩:=(D.a 9 rfl)
 replace A11:=le2 D.le A11
 have N3_11:=D.n1 8 (lt_of B3) E3_8
 replace B3:=D.k B3
 simp only [Value.cells,E3_2,E3_6,E3_8] at B11
 replace F_x5:=D.gr (RatN c.b.re) F_x5
 replace F_x6:=D.gr (RatN c.b.im) F_x6
 clear D
 refine wp_seq_k fun _ K12=>?_
 refine gs 12 (Amb S W) fun _ K13=>?_
 refine .mz rfl 5 E2_8 ?_
 refine .e rfl (V:=.bool false) (fun H=>x_not (H.g 21 0)) ?_
 refine .mv rfl 1 ?_
 refine .fz rfl 6 0 E3_8 ?_ (hg:=gq 2 rfl)
 refine .lc rfl 3 B11 ?_ (V:=pt b9) (hg:=gq 2 rfl)
 refine .e rfl (V:=.bool false) (fun H=>x_pnE (H.g 25 4) (H.c _)) ?_ (hg:=gq 2 rfl)
 refine .e rfl (fun H=>x_pkF (H.g 23 2) (H.g 26 5)) ?_
 refine .mv rfl 6 ?_
 refine .fz rfl 6 3 E3_8 ?_ (hg:=gq 7 rfl)
 refine .lc rfl 8 B11 ?_ (V:=pt b10) (hg:=gq 7 rfl)
 refine .e rfl (V:=.bool false) (fun H=>x_pnE (H.g 30 9) (H.c _)) ?_ (hg:=gq 7 rfl)
 refine .e rfl (fun H=>x_pkF (H.g 28 7) (H.g 31 10)) ?_
 refine .dk (fun u=>ciV c::sq u1 0 3 (u2 6::u2 8::u3 8::u2 3::sq u2 0 3 (u2 4::u2 5::sq u3 0 8 (sq u 0 12 (us 8))))) K13 bel fun u4 w4 D bel=>?_
 have E4_11:=D.q 11
 replace B3:=D.k B3
 replace B11:=D.k B11
 replace F9:=D.o L9 F9
 replace F10:=D.o L10 F10
 replace F_x5:=D.gr (RatN c.b.re) F_x5
 replace F_x6:=D.gr (RatN c.b.im) F_x6
 clear D
 refine wp_cond_false (by exact E4_11) ?_
 refine wp_skip ?_
 refine K12 _ _ ?_
 refine gd1 9 (Amb S W) 7 B3 fun _ K14=>?_
 refine .e rfl (fun H=>x_ldr (H.z 6 E3_8) (H.b1 B11 N3_11)) ?_
 refine .e rfl (fun H=>x_ldr (H.z 6 E3_8) (H.b1 B11 N3_11)) ?_
 refine .e rfl (fun H=>x_ldr (H.z 6 E3_8) (H.b1 B11 N3_11)) ?_
 refine .cR rfl [] Tryz.func214 (fun H=>⟨_,ar2 (H.g 35 1) (H.g 36 2),dsBy c c (RingP.mk (H.was _ [] (VP.at F9 L9)) (H.was _ [] F_x5) (H.was _ [] F_x6) (H.was _ [] (VP.at F10 L10))) (RingP.mk (H.was _ [] (VP.at F9 L9)) (H.was _ [] F_x5) (H.was _ [] F_x6) (H.was _ [] (VP.at F10 L10))) (by first|omega|exact (and_3 p0).1|exact (and_3 p0).2.1|exact (and_3 p0).2.2|exact pos_flat p1)⟩) ?_
 refine .cR rfl [] Tryz.func132 (fun H=>⟨_,ar2 (H.c (.int .i64 (-1))) (H.c (.int .i64 1)),qNewRat _ _ (by first|omega|exact (and_3 p0).1|exact (and_3 p0).2.1|exact (and_3 p0).2.2|exact pos_flat p1) (by first|omega|exact (and_3 p0).1|exact (and_3 p0).2.1|exact (and_3 p0).2.2|exact pos_flat p1) (by first|omega|exact (and_3 p0).1|exact (and_3 p0).2.1|exact (and_3 p0).2.2|exact pos_flat p1) (by first|omega|exact (and_3 p0).1|exact (and_3 p0).2.1|exact (and_3 p0).2.2|exact pos_flat p1) (by first|omega|exact (and_3 p0).1|exact (and_3 p0).2.1|exact (and_3 p0).2.2|exact pos_flat p1)⟩) ?_
 refine .cK rfl Tryz.func175 (fun H=>⟨_,ar2 (H.r 37 3) (H.r 38 4),qCmp _ _ (SV.any (H.a 3 rfl)) (SV.any (H.a 4 rfl)) (by first|omega|exact (and_3 p0).1|exact (and_3 p0).2.1|exact (and_3 p0).2.2|exact pos_flat p1)⟩) ?_
 refine .e rfl (V:=.bool ((icmp ((c.dot c).num*((Rat.divInt (-1:Int) (1:Int)).den:Int)) ((Rat.divInt (-1:Int) (1:Int)).num*((c.dot c).den:Int))) == 0)) (fun H=>x_cmp (H.g 39 5) (H.c _)) ?_
 refine Go2.storeOld (i:=7) 0 b3 rfl rfl rfl ⟨_,_,_,B3,rfl⟩ (SP.old 0 b3 [] (fun u=>#[pt b9,x5,x6,pt b10]) 180 (by intro u u' h;simp []) (lt_of B3) (by intro y k hy;match y,hy with|0,hy=>rfl)) (fun u μ ρ H=>?_) ?_
 · have e2:=H.z 2 E1_1;have e34:=H.g 34 0;have o_x5:=VP1.ratn F_x5;have o_x6:=VP1.ratn F_x6;have hb:=H.blkOld B3 0 7 rfl (.inl rfl)
   refine ⟨μ.setRow b3 #[pt b9,x5,x6,pt b10],ex_store_row 180 _ _ rfl e2 e34 hb (by kernel_rfl) rfl (by simp [o_x5,o_x6,ptr1]<;>rfl),fun g=>?_,setRow_only _ _ _⟩
   show (World.setRow _ _ _).heap[b3]? = _
   rw [setRow_at hb];try simp [upd]
 refine .mv rfl 6 ?_
 refine .d1 (fun u=>ciV c::u1 0::u1 1::u 8::u2 6::u2 8::u3 8::u2 3::sq u2 0 3 (u2 4::u2 5::sq u3 0 8 (sq u4 0 12 (U::sq u 0 7 [])))) K14 bel A3 fun u5 w5 D bel=>?_
 have E5_8:=D.q 8
 replace B3:=D.ol 7
 replace F9:=D.o L9 F9
 replace F10:=D.o L10 F10
 replace F_x5:=D.gr (RatN c.b.re) F_x5
 replace F_x6:=D.gr (RatN c.b.im) F_x6
 clear D
 refine wp_ret ?_
 refine ret_ok rfl (by exact results_mix rfl (by exact E1_1) B3 Tryz.underlying180 rfl (by kernel_rfl) (by exact E5_8)) ⟨_,rfl,?_,bel⟩
 exact ⟨_,_,rfl,(RingP.mk (VP.at F9 L9) F_x5 F_x6 (VP.at F10 L10)),(plate_eq c)⟩
end Go.Proofs.YtcpjdjnaipbieaaGreat
namespace Go.Proofs.YtcpjdjnaipbieaaGreat
open Go.RowKit Rgn
theorem tupJ {φ:VP} {S:Nat→Prop} {w:World} {v:Value} (h:φ.p S v w):(VP.tup φ (VP.is (.bool false))).p S (.tuple #[v,.bool false]) w:=⟨_,_,rfl,h,rfl⟩
theorem ringJ0 {S:Nat→Prop} {w:World}:(RingJ 0).p S (.agg #[.pointer none,.pointer none,.pointer none,.pointer none]) w:=⟨_,_,_,_,rfl,⟨_,rfl⟩,⟨_,rfl⟩,⟨_,rfl⟩,⟨_,rfl⟩⟩
theorem toJ {P:Program} {f:FuncId} {args:Array Value} {W:World} {φ ψ:VP} {b:Bool} {S:Nat→Prop} (h:Calls P f args W (Ret (VP.tup φ (VP.is (.bool b))) S W)) (hb:b=false) (hj:∀ v w (S:Nat→Prop),φ.p S v w→ψ.p S v w):Calls P f args W (Ret (VP.tup ψ (VP.is (.bool false))) S W):=by
 subst hb
 exact h.mono fun _ _ ⟨v,h1,⟨a,b,h2,h3,h4⟩,h5⟩=>⟨v,h1,⟨a,b,h2,hj _ _ _ h3,h4⟩,h5⟩
theorem ePlateO {S:Nat→Prop} {W:World} (c:Ci) (p0:dsOk (rci c)=true):Calls Tryz.prog 210 #[ciV c] W (Ret (VP.tup (RingP c) (VP.is (.bool true))) S W):=by
 obtain ⟨h1,h2⟩:=dsOk_c p0
 have h:=ePlateY (S:=S) (W:=W) c h1
 rw [decide_eq_true h2] at h
 exact h
theorem ePlateN {S:Nat→Prop} {W:World} (r:RCi) (p0:dsOk r=false):Calls Tryz.prog 210 #[rciV r] W (Ret (VP.tup (RingJ 0) (VP.is (.bool false))) S W):=by
 cases h1:gmay r.b with
 | false=>exact retOf (ePlateA r h1) fun _=>tupJ ringJ0
 | true =>
  cases h2:fmay r.a with
  | false=>exact retOf (ePlateB r h1 h2) fun _=>tupJ ringJ0
  | true =>
   cases h3:fmay r.c with
   | false=>exact retOf (ePlateC r h1 h2 h3) fun _=>tupJ ringJ0
   | true =>
    obtain ⟨c,rfl,hf⟩:=ci_of h2 h1 h3
    refine toJ (ePlateY c hf) (decide_eq_false fun e=>?_) fun _ _ _ h=>RingP.j h
    exact dsOk_no p0 ⟨c,rfl,hf,e⟩
end Go.Proofs.YtcpjdjnaipbieaaGreat
namespace Go.Proofs.YtcpjdjnaipbieaaGreat
open Go.RowKit Rgn
theorem fmay_rf (q:Rat):fmay (rf q)=fits (rf q):=by unfold fmay;rw [fformed_rf,Bool.and_true]
theorem cmay_a {c:Ci} (h:cifits (rci c)=true):fmay (rf c.a)=true:=by rw [fmay_rf];exact (and_3 h).1
theorem cmay_b {c:Ci} (h:cifits (rci c)=true):gmay (rg c.b)=true:=by rw [gmay_rg];exact (and_3 h).2.1
theorem cmay_c {c:Ci} (h:cifits (rci c)=true):fmay (rf c.c)=true:=by rw [fmay_rf];exact (and_3 h).2.2
end Go.Proofs.YtcpjdjnaipbieaaGreat
namespace Go.Proofs.YtcpjdjnaipbieaaGreat
open Go.RowKit Rgn
@[reducible] def Cx.inv (k:Cx):Cx:=k.conj.scale k.norm⁻¹
theorem inv_one {k:Cx} (h:k.zero=false):k.inv.mul k=⟨1,0⟩:=by
 have hn:k.norm≠0:=zero_norm h
 have e:(k.re*k.re+k.im*k.im)*k.norm⁻¹=1:=Rat.mul_inv_cancel _ hn
 exact Cx.ext' (by show k.re*k.norm⁻¹*k.re - -k.im*k.norm⁻¹*k.im=1;grind) (by show k.re*k.norm⁻¹*k.im+-k.im*k.norm⁻¹*k.re=0;grind)
theorem inv_zero {k:Cx} (h:k.zero=false):k.inv.zero=false:=by
 cases e:k.inv.zero with
 | false=>rfl
 | true =>
  have h1:=inv_one h
  rw [zero_iff.1 e] at h1
  have h2:(0:Rat)*k.re-0*k.im=1:=congrArg Cx.re h1
  grind
@[reducible] def Mb.by (m:Mb) (j:Cx):Mb:=⟨m.a.mul j,m.b.mul j,m.c.mul j,m.d.mul j,m.t⟩
def Ci.at (c:Ci) (v w:Cx):Rat:=c.a*v.norm+c.c*w.norm+(((c.b.mul v).mul w.conj).re+((c.b.mul v).mul w.conj).re)
def Ci.mid (c:Ci) (n:Mb):Cx:=((((Cx.mk c.a 0).mul (n.a.mul n.b.conj)).add ((c.b.mul n.a).mul n.d.conj)).add ((c.b.mul n.b).conj.mul n.c)).add ((Cx.mk c.c 0).mul (n.c.mul n.d.conj))
def Ci.im (c:Ci) (n:Mb) (t:Bool):Ci:=⟨c.at n.a n.c,cjC t (c.mid n),c.at n.b n.d⟩
def HB (z:Cx) (n:Nat):Prop:=ht z.re≤n∧ht z.im≤n
section
variable {x y z:Cx} {p q:Rat} {a b n:Nat}
theorem HB.two (h1:ht z.re≤a) (h2:ht z.im≤b) (n:Nat) (h:(Nat.ble a n&&Nat.ble b n)=true:=by decide):HB z n:=by
 simp only [Bool.and_eq_true,Nat.ble_eq] at h
 exact ⟨Nat.le_trans h1 h.1,Nat.le_trans h2 h.2⟩
theorem HB.mul (h1:HB x a) (h2:HB y b) (n:Nat) (h:2*a+2*b≤n:=by decide):HB (x.mul y) n:=by
 have:=hc_mul x y
 unfold HB at *;omega
theorem HB.add (h1:HB x a) (h2:HB y b) (n:Nat) (h:a+b≤n:=by decide):HB (x.add y) n:=by
 have:=hc_add x y
 unfold HB at *;omega
theorem HB.sub (h1:HB x a) (h2:HB y b) (n:Nat) (h:a+b≤n:=by decide):HB (x.sub y) n:=by
 have:=hc_sub x y
 unfold HB at *;omega
theorem HB.div (h1:HB x a) (h2:HB y b) (n:Nat) (h:6*a+6*b≤n:=by decide):HB (x.div y) n:=by
 have:=hc_div x y
 unfold HB at *;omega
theorem HB.neg (h1:HB x a):HB x.neg a:=by have:=hc_neg x;unfold HB at *;omega
theorem HB.conj (h1:HB x a):HB x.conj a:=by have:=hc_conj x;unfold HB at *;omega
theorem HB.scale (h1:HB x a) (h2:ht p≤b) (n:Nat) (h:a+b≤n:=by decide):HB (x.scale p) n:=by
 have:=hc_scale x p
 unfold HB at *;omega
theorem HB.norm (h1:HB x a) (n:Nat) (h:4*a≤n:=by decide):ht x.norm≤n:=by
 have:=hc_norm x
 unfold HB at *;omega
theorem hb_add (h1:ht p≤a) (h2:ht q≤b) (n:Nat) (h:a+b≤n:=by decide):ht (p+q)≤n:=Nat.le_trans (ht_add p q) (Nat.le_trans (Nat.add_le_add h1 h2) h)
theorem hb_sub (h1:ht p≤a) (h2:ht q≤b) (n:Nat) (h:a+b≤n:=by decide):ht (p-q)≤n:=Nat.le_trans (ht_sub p q) (Nat.le_trans (Nat.add_le_add h1 h2) h)
theorem hb_mul (h1:ht p≤a) (h2:ht q≤b) (n:Nat) (h:a+b≤n:=by decide):ht (p*q)≤n:=Nat.le_trans (ht_mul p q) (Nat.le_trans (Nat.add_le_add h1 h2) h)
theorem hb_neg (h1:ht p≤a):ht (-p)≤a:=by rw [ht_neg];exact h1
theorem hb_ci {c:Ci} (h:ht c.a+ht c.b.re+ht c.b.im+ht c.c≤n):ht c.a≤n∧HB c.b n∧ht c.c≤n:=by unfold HB;omega
end
end Go.Proofs.YtcpjdjnaipbieaaGreat
namespace Go.Proofs.YtcpjdjnaipbieaaGreat
open Go.RowKit Rgn Eng
def idxF:List Bool→Int→Int
 | [],_=>-1
 | b::l,k=>if b then idxF l (k+1) else k
theorem idxF_all (l:List Bool):decide ((0:Int)≤idxF l 0) = !(l.all id):=by
 have key:∀ (l:List Bool) (k:Int),0≤k→decide ((0:Int)≤idxF l k) = !(l.all id):=by
  intro l
  induction l with
  | nil=>intro k _;rfl
  | cons b l ih =>
   intro k hk
   cases b with
   | true=>exact ih (k+1) (by omega)
   | false=>show decide ((0:Int)≤k)=true;exact decide_eq_true hk
 exact key l 0 (Int.le_refl _)
def mn3 (xa xb xc ya yb yc za zb zc:Rat):Rat:=(0+(yb*zc-yc*zb)*xa)+(yc*za-ya*zc)*xb+(ya*zb-yb*za)*xc
theorem mn3_hb {xa xb xc ya yb yc za zb zc:Rat} (h1:ht xa≤40000) (h2:ht xb≤40000) (h3:ht xc≤40000) (h4:ht ya≤40000) (h5:ht yb≤40000) (h6:ht yc≤40000) (h7:ht za≤40000) (h8:ht zb≤40000) (h9:ht zc≤40000):ht (mn3 xa xb xc ya yb yc za zb zc)≤600002 :=
 hb_add (hb_add (hb_add (Nat.le_of_eq ht_zero) (hb_mul (hb_sub (hb_mul h5 h9 80000) (hb_mul h6 h8 80000) 160000) h1 200000) 200002) (hb_mul (hb_sub (hb_mul h6 h7 80000) (hb_mul h4 h9 80000) 160000) h2 200000) 400002) (hb_mul (hb_sub (hb_mul h4 h8 80000) (hb_mul h5 h7 80000) 160000) h3 200000) 600002
def Ci.acr (x y z:Ci):Ci :=
 ⟨-(mn3 x.a x.b.re x.b.im y.a y.b.re y.b.im z.a z.b.re z.b.im),((⟨mn3 x.a x.c x.b.im y.a y.c y.b.im z.a z.c z.b.im,0⟩:Cx).add ((⟨-(mn3 x.a x.c x.b.re y.a y.c y.b.re z.a z.c z.b.re),0⟩:Cx).mul (Cx.ofInt 0 1))).scale (Rat.divInt (-1) 2),mn3 x.c x.b.re x.b.im y.c y.b.re y.b.im z.c z.b.re z.b.im⟩
theorem acr_ht {x y z:Ci} (h1:ht x.a+ht x.b.re+ht x.b.im+ht x.c≤40000) (h2:ht y.a+ht y.b.re+ht y.b.im+ht y.c≤40000) (h3:ht z.a+ht z.b.re+ht z.b.im+ht z.c≤40000):ht (Ci.acr x y z).a+ht (Ci.acr x y z).b.re+ht (Ci.acr x y z).b.im+ht (Ci.acr x y z).c≤4800036:=by
 obtain ⟨a1,b1,c1⟩:=hb_ci h1
 obtain ⟨a2,b2,c2⟩:=hb_ci h2
 obtain ⟨a3,b3,c3⟩:=hb_ci h3
 have k0:=mn3_hb a1 c1 b1.2 a2 c2 b2.2 a3 c3 b3.2
 have k1:=hb_neg (mn3_hb a1 c1 b1.1 a2 c2 b2.1 a3 c3 b3.1)
 have k2:=HB.mul (HB.two (z:=Cx.mk (-(mn3 x.a x.c x.b.re y.a y.c y.b.re z.a z.c z.b.re)) 0) k1 (Nat.le_of_eq ht_zero) 600002) (⟨by decide,by decide⟩:HB (Cx.ofInt 0 1) 3) 1200010
 have k3:=HB.add (HB.two (z:=Cx.mk (mn3 x.a x.c x.b.im y.a y.c y.b.im z.a z.c z.b.im) 0) k0 (Nat.le_of_eq ht_zero) 600002) k2 1800012
 have k4:=hb_neg (mn3_hb a1 b1.1 b1.2 a2 b2.1 b2.2 a3 b3.1 b3.2)
 have k5:=HB.scale k3 (by decide:ht (Rat.divInt (-1) 2)≤4) 1800016
 have k6:=mn3_hb c1 b1.1 b1.2 c2 b2.1 b2.2 c3 b3.1 b3.2
 exact Nat.le_trans (Nat.add_le_add (Nat.add_le_add (Nat.add_le_add k4 k5.1) k5.2) k6) (by decide)
theorem plus_ht (x y:Ci):ht (x.plus y).a+ht (x.plus y).b.re+ht (x.plus y).b.im+ht (x.plus y).c≤(ht x.a+ht x.b.re+ht x.b.im+ht x.c)+(ht y.a+ht y.b.re+ht y.b.im+ht y.c):=by
 have h1:ht (x.plus y).a≤ht x.a+ht y.a:=ht_add x.a y.a
 have h2:ht (x.plus y).b.re≤ht x.b.re+ht y.b.re:=ht_add x.b.re y.b.re
 have h3:ht (x.plus y).b.im≤ht x.b.im+ht y.b.im:=ht_add x.b.im y.b.im
 have h4:ht (x.plus y).c≤ht x.c+ht y.c:=ht_add x.c y.c
 omega
theorem out_hs (x:Ci):ht x.out.a+ht x.out.b.re+ht x.out.b.im+ht x.out.c=ht x.a+ht x.b.re+ht x.b.im+ht x.c:=by
 obtain ⟨h1,h2,h3,h4⟩:=out_ht x;omega
def fstN:List Int→Bool
 | []=>false
 | n::l=>if (n != 0)=true then decide (n<0) else fstN l
def Ci.ahd (a b:Ci):Bool:=fstN [-(icmp (a.a.num*(b.a.den:Int)) (b.a.num*(a.a.den:Int))),(a.b.sub b.b).re.num.sign,(a.b.sub b.b).im.num.sign,icmp (a.c.num*(b.c.den:Int)) (b.c.num*(a.c.den:Int))]
def Ci.f4s (a b c:Ci):Ci:=(a.plus b).plus c
def Ci.f4x (a b c:Ci):Ci:=(Ci.f4s a b c).plus (Ci.acr a b c)
def Ci.f4y (a b c:Ci):Ci:=(Ci.f4s a b c).plus (Ci.acr a b c).out
def Ci.f4p (a b c:Ci):Ci:=if (Ci.f4y a b c).ahd (Ci.f4x a b c)=true then Ci.f4y a b c else Ci.f4x a b c
def Ci.f4q (a b c:Ci):Ci:=if (Ci.f4y a b c).ahd (Ci.f4x a b c)=true then Ci.f4x a b c else Ci.f4y a b c
def Ci.f4b (a b c:Ci):Bool:=(cierr (Ci.f4p a b c) != 0)||(cierr (Ci.f4q a b c) != 0)
def Ci.f4P (a b c:Ci):RCi:=if Ci.f4b a b c=true then rzCi else cicut (Ci.f4p a b c)
def Ci.f4Q (a b c:Ci):RCi:=if Ci.f4b a b c=true then rzCi else cicut (Ci.f4q a b c)
def Ci.f4E (a b c:Ci):Int:=if Ci.f4b a b c=true then 4 else 0
def Ci.all3 (a b c:Ci):Bool:=[b.touch a].all id&&[c.touch a,c.touch b].all id
theorem f4_ht {x y z:Ci} (h1:ht x.a+ht x.b.re+ht x.b.im+ht x.c≤40000) (h2:ht y.a+ht y.b.re+ht y.b.im+ht y.c≤40000) (h3:ht z.a+ht z.b.re+ht z.b.im+ht z.c≤40000) :
  ht (Ci.f4s x y z).a+ht (Ci.f4s x y z).b.re+ht (Ci.f4s x y z).b.im+ht (Ci.f4s x y z).c≤120000∧ht (Ci.f4x x y z).a+ht (Ci.f4x x y z).b.re+ht (Ci.f4x x y z).b.im+ht (Ci.f4x x y z).c≤5000000∧ht (Ci.f4y x y z).a+ht (Ci.f4y x y z).b.re+ht (Ci.f4y x y z).b.im+ht (Ci.f4y x y z).c≤5000000:=by
 have g:=acr_ht h1 h2 h3
 have k1:=plus_ht x y
 have k2:=plus_ht (x.plus y) z
 have k3:=plus_ht (Ci.f4s x y z) (Ci.acr x y z)
 have k4:=plus_ht (Ci.f4s x y z) (Ci.acr x y z).out
 have k5:=out_hs (Ci.acr x y z)
 unfold Ci.f4x Ci.f4y
 refine ⟨?_,?_,?_⟩<;>(unfold Ci.f4s at *;omega)
section
variable {a b c:Ci}
theorem fo_e (e:Ci.f4b a b c=true):Value.tuple #[rciV rzCi,rciV rzCi,.int .i64 4]=.tuple #[rciV (Ci.f4P a b c),rciV (Ci.f4Q a b c),.int .i64 (Ci.f4E a b c)]:=by
 unfold Ci.f4P Ci.f4Q Ci.f4E;rw [if_pos e,if_pos e,if_pos e]
theorem fo_1 (h:(Ci.f4y a b c).ahd (Ci.f4x a b c)=true) (e:(cierr (Ci.f4y a b c) != 0)=true):Value.tuple #[rciV rzCi,rciV rzCi,.int .i64 4]=.tuple #[rciV (Ci.f4P a b c),rciV (Ci.f4Q a b c),.int .i64 (Ci.f4E a b c)] :=
 fo_e (by unfold Ci.f4b Ci.f4p;rw [if_pos h,e];rfl)
theorem fo_2 (h:(Ci.f4y a b c).ahd (Ci.f4x a b c)=true) (e:(cierr (Ci.f4x a b c) != 0)=true):Value.tuple #[rciV rzCi,rciV rzCi,.int .i64 4]=.tuple #[rciV (Ci.f4P a b c),rciV (Ci.f4Q a b c),.int .i64 (Ci.f4E a b c)] :=
 fo_e (by unfold Ci.f4b Ci.f4q;rw [if_pos h,e,Bool.or_true])
theorem fo_3 (h:(Ci.f4y a b c).ahd (Ci.f4x a b c)=true) (e:(cierr (Ci.f4y a b c) != 0)=false) (e' : (cierr (Ci.f4x a b c) != 0)=false):Value.tuple #[rciV (cicut (Ci.f4y a b c)),rciV (cicut (Ci.f4x a b c)),.int .i64 0]=.tuple #[rciV (Ci.f4P a b c),rciV (Ci.f4Q a b c),.int .i64 (Ci.f4E a b c)]:=by
 have g:¬ Ci.f4b a b c=true:=by unfold Ci.f4b Ci.f4p Ci.f4q;rw [if_pos h,if_pos h,e,e'];decide
 unfold Ci.f4P Ci.f4Q Ci.f4E;rw [if_neg g,if_neg g,if_neg g];unfold Ci.f4p Ci.f4q;rw [if_pos h,if_pos h]
theorem fo_4 (h:(Ci.f4y a b c).ahd (Ci.f4x a b c)=false) (e:(cierr (Ci.f4x a b c) != 0)=true):Value.tuple #[rciV rzCi,rciV rzCi,.int .i64 4]=.tuple #[rciV (Ci.f4P a b c),rciV (Ci.f4Q a b c),.int .i64 (Ci.f4E a b c)] :=
 fo_e (by unfold Ci.f4b Ci.f4p;rw [if_neg (by rw [h];decide),e];rfl)
theorem fo_5 (h:(Ci.f4y a b c).ahd (Ci.f4x a b c)=false) (e:(cierr (Ci.f4y a b c) != 0)=true):Value.tuple #[rciV rzCi,rciV rzCi,.int .i64 4]=.tuple #[rciV (Ci.f4P a b c),rciV (Ci.f4Q a b c),.int .i64 (Ci.f4E a b c)] :=
 fo_e (by unfold Ci.f4b Ci.f4q;rw [if_neg (by rw [h];decide),e,Bool.or_true])
theorem fo_6 (h:(Ci.f4y a b c).ahd (Ci.f4x a b c)=false) (e:(cierr (Ci.f4x a b c) != 0)=false) (e' : (cierr (Ci.f4y a b c) != 0)=false):Value.tuple #[rciV (cicut (Ci.f4x a b c)),rciV (cicut (Ci.f4y a b c)),.int .i64 0]=.tuple #[rciV (Ci.f4P a b c),rciV (Ci.f4Q a b c),.int .i64 (Ci.f4E a b c)]:=by
 have h' : ¬ (Ci.f4y a b c).ahd (Ci.f4x a b c)=true:=by rw [h];decide
 have g:¬ Ci.f4b a b c=true:=by unfold Ci.f4b Ci.f4p Ci.f4q;rw [if_neg h', if_neg h', e,e'];decide
 unfold Ci.f4P Ci.f4Q Ci.f4E;rw [if_neg g,if_neg g,if_neg g];unfold Ci.f4p Ci.f4q;rw [if_neg h', if_neg h']
end
def Ci.swp (a b c d x:Ci):Ci:=(((((a.plus b).plus c).plus d).plus x.out).plus ((((a.plus b).plus c).plus d).plus x.out)).plus x.out
def Ci.all4 (a b c d:Ci):Bool:=[b.touch a].all id&&[c.touch a,c.touch b].all id&&[d.touch a,d.touch b,d.touch c].all id
theorem swp_ht (a b c d x:Ci):ht (Ci.swp a b c d x).a+ht (Ci.swp a b c d x).b.re+ht (Ci.swp a b c d x).b.im+ht (Ci.swp a b c d x).c≤2*((ht a.a+ht a.b.re+ht a.b.im+ht a.c)+(ht b.a+ht b.b.re+ht b.b.im+ht b.c)+(ht c.a+ht c.b.re+ht c.b.im+ht c.c)+(ht d.a+ht d.b.re+ht d.b.im+ht d.c))+3*(ht x.a+ht x.b.re+ht x.b.im+ht x.c):=by
 have h1:=plus_ht a b
 have h2:=plus_ht (a.plus b) c
 have h3:=plus_ht ((a.plus b).plus c) d
 have h4:=out_hs x
 have h5:=plus_ht (((a.plus b).plus c).plus d) x.out
 have h6:=plus_ht ((((a.plus b).plus c).plus d).plus x.out) ((((a.plus b).plus c).plus d).plus x.out)
 have h7:=plus_ht (((((a.plus b).plus c).plus d).plus x.out).plus ((((a.plus b).plus c).plus d).plus x.out)) x.out
 unfold Ci.swp;omega
theorem ci1_eq (b:Bool):decide ((0:Int)≤idxF [!b] 0)=b:=by cases b<;>rfl
theorem nT {b:Bool} (h:(!b)=false):b=true:=by simpa using h
theorem nF {b:Bool} (h:(!b)=true):b=false:=by simpa using h
theorem wneg (a b:Int):IntKind.wrap .i64 (-(icmp a b))=-(icmp a b):=by
 unfold icmp;split
 ·decide
 ·split<;>decide
end Go.Proofs.YtcpjdjnaipbieaaGreat
namespace Go.Proofs.YtcpjdjnaipbieaaGreat
open Go.RowKit Rgn Eng
set_option maxHeartbeats 8000000
set_option maxRecDepth 100000
variable {S:Nat→Prop} {W:World}
theorem tc1 {v0 w1_0 w1_1 w1_2 w1_3:Value} {b1:Nat} (y:Ci) (x:Ci) (t0:(RingP y).p S v0 W) (B1:W.heap[b1]? = some (.cells #[w1_0,w1_1,w1_2,w1_3] 180 (0,0))) (t1:(RingP x).p S (.agg #[w1_0,w1_1,w1_2,w1_3]) W) (p0:ht x.a+ht x.b.re+ht x.b.im+ht x.c+(ht y.a+ht y.b.re+ht y.b.im+ht y.c)≤67108000):Calls Tryz.prog 225 #[v0,.pointer (some ⟨b1,0,none⟩)] W (RetV (.bool (!(x.touch y))) W):=by
 refine Run.goP (S:=S) ((Pack.nil.s spRing t0).bv B1 none 4 (ringCells t1)) Tryz.func225 rfl ?_
 refine Run.cV [.bool (x.touch y)] kb (fun _ _ _ H=>dsTouch x y (RingP.mk (H.f 4) (H.f 5) (H.f 6) (H.f 7)) (RingP.mk (H.f 0) (H.f 1) (H.f 2) (H.f 3)) p0) ?_
 refine (Bool.eq_false_or_eq_true (x.touch y)).elim (fun c1=>?_) (fun c1=>?_)
 · refine Run.kn c1 ?_
   exact Run.rV (V' := .bool false) ((congrArg Value.bool (by simp [c1])))
 · refine Run.kn c1 ?_
   exact Run.rV (V' := .bool true) ((congrArg Value.bool (by simp [c1])))
theorem ix0 {w1_0 w1_1 w1_2 w1_3:Value} {b0 b1:Nat} (n0:Nat) (x:Ci) (B0:∃ r:List Value,W.heap[b0]? = some (.cells ⟨[]++r⟩ 180 (0,0))) (B1:W.heap[b1]? = some (.cells #[w1_0,w1_1,w1_2,w1_3] 180 (0,0))) (t1:(RingP x).p S (.agg #[w1_0,w1_1,w1_2,w1_3]) W):Calls Tryz.prog 271 #[.slice (some ⟨b0,0,none⟩) 0 n0,.func (.func 225) #[] #[.pointer (some ⟨b1,0,none⟩)]] W (RetV (.int .i64 (idxF [] 0)) W):=by
 refine Run.goP (S:=S) ((Pack.nil.bm B0 0 n0 0 ((show AllF (Amb S W) W [] [] from trivial))).bf B1 225 4 (ringCells t1)) Tryz.func271 rfl ?_
 exact Run.rV rfl
theorem ix1 {w0_0 w0_1 w0_2 w0_3 w1_0 w1_1 w1_2 w1_3:Value} {b0 b1:Nat} (n0:Nat) (y0:Ci) (x:Ci) (B0:∃ r:List Value,W.heap[b0]? = some (.cells ⟨[w0_0,w0_1,w0_2,w0_3]++r⟩ 180 (0,0))) (t0_0:(RingP y0).p S (.agg #[w0_0,w0_1,w0_2,w0_3]) W) (B1:W.heap[b1]? = some (.cells #[w1_0,w1_1,w1_2,w1_3] 180 (0,0))) (t1:(RingP x).p S (.agg #[w1_0,w1_1,w1_2,w1_3]) W) (p0:ht x.a+ht x.b.re+ht x.b.im+ht x.c+(ht y0.a+ht y0.b.re+ht y0.b.im+ht y0.c)≤67108000):Calls Tryz.prog 271 #[.slice (some ⟨b0,0,none⟩) 1 n0,.func (.func 225) #[] #[.pointer (some ⟨b1,0,none⟩)]] W (RetV (.int .i64 (idxF [x.touch y0] 0)) W):=by
 refine Run.goP (S:=S) ((Pack.nil.bm B0 1 n0 4 (ringCells t0_0)).bf B1 225 4 (ringCells t1)) Tryz.func271 rfl ?_
 refine Run.cV [.bool (!(x.touch y0))] kb (fun _ _ _ H=>tc1 y0 x (RingP.mk (H.f 0) (H.f 1) (H.f 2) (H.f 3)) (H.b 1) (RingP.mk (H.f 4) (H.f 5) (H.f 6) (H.f 7)) p0) ?_
 refine (Bool.eq_false_or_eq_true (!(x.touch y0))).elim (fun c1=>?_) (fun c1=>?_)
 · refine Run.kn c1 ?_
   exact Run.rV (V' := .int .i64 (0)) ((congrArg (Value.int .i64) (by simp [idxF,nF c1])))
 · refine Run.kn c1 ?_
   exact Run.rV (V' := .int .i64 (-1)) ((congrArg (Value.int .i64) (by simp [idxF,nT c1])))
theorem ix2 {w0_0 w0_1 w0_2 w0_3 w0_4 w0_5 w0_6 w0_7 w1_0 w1_1 w1_2 w1_3:Value} {b0 b1:Nat} (n0:Nat) (y0:Ci) (y1:Ci) (x:Ci) (B0:∃ r:List Value,W.heap[b0]? = some (.cells ⟨[w0_0,w0_1,w0_2,w0_3,w0_4,w0_5,w0_6,w0_7]++r⟩ 180 (0,0))) (t0_0:(RingP y0).p S (.agg #[w0_0,w0_1,w0_2,w0_3]) W) (t0_1:(RingP y1).p S (.agg #[w0_4,w0_5,w0_6,w0_7]) W) (B1:W.heap[b1]? = some (.cells #[w1_0,w1_1,w1_2,w1_3] 180 (0,0))) (t1:(RingP x).p S (.agg #[w1_0,w1_1,w1_2,w1_3]) W) (p0:ht x.a+ht x.b.re+ht x.b.im+ht x.c+(ht y0.a+ht y0.b.re+ht y0.b.im+ht y0.c)≤67108000) (p1:ht x.a+ht x.b.re+ht x.b.im+ht x.c+(ht y1.a+ht y1.b.re+ht y1.b.im+ht y1.c)≤67108000):Calls Tryz.prog 271 #[.slice (some ⟨b0,0,none⟩) 2 n0,.func (.func 225) #[] #[.pointer (some ⟨b1,0,none⟩)]] W (RetV (.int .i64 (idxF [x.touch y0,x.touch y1] 0)) W):=by
 refine Run.goP (S:=S) ((Pack.nil.bm B0 2 n0 8 (AllF.app (ringCells t0_0) (ringCells t0_1))).bf B1 225 4 (ringCells t1)) Tryz.func271 rfl ?_
 refine Run.cV [.bool (!(x.touch y0))] kb (fun _ _ _ H=>tc1 y0 x (RingP.mk (H.f 0) (H.f 1) (H.f 2) (H.f 3)) (H.b 1) (RingP.mk (H.f 8) (H.f 9) (H.f 10) (H.f 11)) p0) ?_
 refine (Bool.eq_false_or_eq_true (!(x.touch y0))).elim (fun c1=>?_) (fun c1=>?_)
 · refine Run.kn c1 ?_
   exact Run.rV (V' := .int .i64 (0)) ((congrArg (Value.int .i64) (by simp [idxF,nF c1])))
 · refine Run.kn c1 ?_
   refine Run.cV [.bool (!(x.touch y1))] kb (fun _ _ _ H=>tc1 y1 x (RingP.mk (H.f 4) (H.f 5) (H.f 6) (H.f 7)) (H.b 1) (RingP.mk (H.f 8) (H.f 9) (H.f 10) (H.f 11)) p1) ?_
   refine (Bool.eq_false_or_eq_true (!(x.touch y1))).elim (fun c2=>?_) (fun c2=>?_)
   · refine Run.kn c2 ?_
     exact Run.rV (V' := .int .i64 (1)) ((congrArg (Value.int .i64) (by simp [idxF,nT c1,nF c2])))
   · refine Run.kn c2 ?_
     exact Run.rV (V' := .int .i64 (-1)) ((congrArg (Value.int .i64) (by simp [idxF,nT c1,nT c2])))
theorem ix3 {w0_0 w0_1 w0_2 w0_3 w0_4 w0_5 w0_6 w0_7 w0_8 w0_9 w0_10 w0_11 w1_0 w1_1 w1_2 w1_3:Value} {b0 b1:Nat} (n0:Nat) (y0:Ci) (y1:Ci) (y2:Ci) (x:Ci) (B0:∃ r:List Value,W.heap[b0]? = some (.cells ⟨[w0_0,w0_1,w0_2,w0_3,w0_4,w0_5,w0_6,w0_7,w0_8,w0_9,w0_10,w0_11]++r⟩ 180 (0,0))) (t0_0:(RingP y0).p S (.agg #[w0_0,w0_1,w0_2,w0_3]) W) (t0_1:(RingP y1).p S (.agg #[w0_4,w0_5,w0_6,w0_7]) W) (t0_2:(RingP y2).p S (.agg #[w0_8,w0_9,w0_10,w0_11]) W) (B1:W.heap[b1]? = some (.cells #[w1_0,w1_1,w1_2,w1_3] 180 (0,0))) (t1:(RingP x).p S (.agg #[w1_0,w1_1,w1_2,w1_3]) W) (p0:ht x.a+ht x.b.re+ht x.b.im+ht x.c+(ht y0.a+ht y0.b.re+ht y0.b.im+ht y0.c)≤67108000) (p1:ht x.a+ht x.b.re+ht x.b.im+ht x.c+(ht y1.a+ht y1.b.re+ht y1.b.im+ht y1.c)≤67108000) (p2:ht x.a+ht x.b.re+ht x.b.im+ht x.c+(ht y2.a+ht y2.b.re+ht y2.b.im+ht y2.c)≤67108000):Calls Tryz.prog 271 #[.slice (some ⟨b0,0,none⟩) 3 n0,.func (.func 225) #[] #[.pointer (some ⟨b1,0,none⟩)]] W (RetV (.int .i64 (idxF [x.touch y0,x.touch y1,x.touch y2] 0)) W):=by
 refine Run.goP (S:=S) ((Pack.nil.bm B0 3 n0 12 (AllF.app (ringCells t0_0) (AllF.app (ringCells t0_1) (ringCells t0_2)))).bf B1 225 4 (ringCells t1)) Tryz.func271 rfl ?_
 refine Run.cV [.bool (!(x.touch y0))] kb (fun _ _ _ H=>tc1 y0 x (RingP.mk (H.f 0) (H.f 1) (H.f 2) (H.f 3)) (H.b 1) (RingP.mk (H.f 12) (H.f 13) (H.f 14) (H.f 15)) p0) ?_
 refine (Bool.eq_false_or_eq_true (!(x.touch y0))).elim (fun c1=>?_) (fun c1=>?_)
 · refine Run.kn c1 ?_
   exact Run.rV (V' := .int .i64 (0)) ((congrArg (Value.int .i64) (by simp [idxF,nF c1])))
 · refine Run.kn c1 ?_
   refine Run.cV [.bool (!(x.touch y1))] kb (fun _ _ _ H=>tc1 y1 x (RingP.mk (H.f 4) (H.f 5) (H.f 6) (H.f 7)) (H.b 1) (RingP.mk (H.f 12) (H.f 13) (H.f 14) (H.f 15)) p1) ?_
   refine (Bool.eq_false_or_eq_true (!(x.touch y1))).elim (fun c2=>?_) (fun c2=>?_)
   · refine Run.kn c2 ?_
     exact Run.rV (V' := .int .i64 (1)) ((congrArg (Value.int .i64) (by simp [idxF,nT c1,nF c2])))
   · refine Run.kn c2 ?_
     refine Run.cV [.bool (!(x.touch y2))] kb (fun _ _ _ H=>tc1 y2 x (RingP.mk (H.f 8) (H.f 9) (H.f 10) (H.f 11)) (H.b 1) (RingP.mk (H.f 12) (H.f 13) (H.f 14) (H.f 15)) p2) ?_
     refine (Bool.eq_false_or_eq_true (!(x.touch y2))).elim (fun c3=>?_) (fun c3=>?_)
     · refine Run.kn c3 ?_
       exact Run.rV (V' := .int .i64 (2)) ((congrArg (Value.int .i64) (by simp [idxF,nT c1,nT c2,nF c3])))
     · refine Run.kn c3 ?_
       exact Run.rV (V' := .int .i64 (-1)) ((congrArg (Value.int .i64) (by simp [idxF,nT c1,nT c2,nT c3])))
theorem cf0 {w1_0 w1_1 w1_2 w1_3:Value} {b0 b1:Nat} (n0:Nat) (x:Ci) (B0:∃ r:List Value,W.heap[b0]? = some (.cells ⟨[]++r⟩ 180 (0,0))) (B1:W.heap[b1]? = some (.cells #[w1_0,w1_1,w1_2,w1_3] 180 (0,0))) (t1:(RingP x).p S (.agg #[w1_0,w1_1,w1_2,w1_3]) W):Calls Tryz.prog 224 #[.slice (some ⟨b0,0,none⟩) 0 n0,.func (.func 225) #[] #[.pointer (some ⟨b1,0,none⟩)]] W (RetV (.bool (!([].all id))) W):=by
 refine Run.goP (S:=S) ((Pack.nil.bm B0 0 n0 0 ((show AllF (Amb S W) W [] [] from trivial))).bf B1 225 4 (ringCells t1)) Tryz.func224 rfl ?_
 refine Run.cV [.int .i64 (idxF [] 0)] kb (fun _ _ _ H=>ix0 n0 x (H.bq 0 0) (H.b 1) (RingP.mk (H.f 0) (H.f 1) (H.f 2) (H.f 3))) ?_
 refine Run.ic (idxF [] 0) 0 (decide (0≤(idxF [] 0))) ?_
 exact Run.rV ((congrArg Value.bool (idxF_all _)))
theorem cf1 {w0_0 w0_1 w0_2 w0_3 w1_0 w1_1 w1_2 w1_3:Value} {b0 b1:Nat} (n0:Nat) (y0:Ci) (x:Ci) (B0:∃ r:List Value,W.heap[b0]? = some (.cells ⟨[w0_0,w0_1,w0_2,w0_3]++r⟩ 180 (0,0))) (t0_0:(RingP y0).p S (.agg #[w0_0,w0_1,w0_2,w0_3]) W) (B1:W.heap[b1]? = some (.cells #[w1_0,w1_1,w1_2,w1_3] 180 (0,0))) (t1:(RingP x).p S (.agg #[w1_0,w1_1,w1_2,w1_3]) W) (p0:ht x.a+ht x.b.re+ht x.b.im+ht x.c+(ht y0.a+ht y0.b.re+ht y0.b.im+ht y0.c)≤67108000):Calls Tryz.prog 224 #[.slice (some ⟨b0,0,none⟩) 1 n0,.func (.func 225) #[] #[.pointer (some ⟨b1,0,none⟩)]] W (RetV (.bool (!([x.touch y0].all id))) W):=by
 refine Run.goP (S:=S) ((Pack.nil.bm B0 1 n0 4 (ringCells t0_0)).bf B1 225 4 (ringCells t1)) Tryz.func224 rfl ?_
 refine Run.cV [.int .i64 (idxF [x.touch y0] 0)] kb (fun _ _ _ H=>ix1 n0 y0 x (H.bq 0 4) (RingP.mk (H.f 0) (H.f 1) (H.f 2) (H.f 3)) (H.b 1) (RingP.mk (H.f 4) (H.f 5) (H.f 6) (H.f 7)) p0) ?_
 refine Run.ic (idxF [x.touch y0] 0) 0 (decide (0≤(idxF [x.touch y0] 0))) ?_
 exact Run.rV ((congrArg Value.bool (idxF_all _)))
theorem cf2 {w0_0 w0_1 w0_2 w0_3 w0_4 w0_5 w0_6 w0_7 w1_0 w1_1 w1_2 w1_3:Value} {b0 b1:Nat} (n0:Nat) (y0:Ci) (y1:Ci) (x:Ci) (B0:∃ r:List Value,W.heap[b0]? = some (.cells ⟨[w0_0,w0_1,w0_2,w0_3,w0_4,w0_5,w0_6,w0_7]++r⟩ 180 (0,0))) (t0_0:(RingP y0).p S (.agg #[w0_0,w0_1,w0_2,w0_3]) W) (t0_1:(RingP y1).p S (.agg #[w0_4,w0_5,w0_6,w0_7]) W) (B1:W.heap[b1]? = some (.cells #[w1_0,w1_1,w1_2,w1_3] 180 (0,0))) (t1:(RingP x).p S (.agg #[w1_0,w1_1,w1_2,w1_3]) W) (p0:ht x.a+ht x.b.re+ht x.b.im+ht x.c+(ht y0.a+ht y0.b.re+ht y0.b.im+ht y0.c)≤67108000) (p1:ht x.a+ht x.b.re+ht x.b.im+ht x.c+(ht y1.a+ht y1.b.re+ht y1.b.im+ht y1.c)≤67108000):Calls Tryz.prog 224 #[.slice (some ⟨b0,0,none⟩) 2 n0,.func (.func 225) #[] #[.pointer (some ⟨b1,0,none⟩)]] W (RetV (.bool (!([x.touch y0,x.touch y1].all id))) W):=by
 refine Run.goP (S:=S) ((Pack.nil.bm B0 2 n0 8 (AllF.app (ringCells t0_0) (ringCells t0_1))).bf B1 225 4 (ringCells t1)) Tryz.func224 rfl ?_
 refine Run.cV [.int .i64 (idxF [x.touch y0,x.touch y1] 0)] kb (fun _ _ _ H=>ix2 n0 y0 y1 x (H.bq 0 8) (RingP.mk (H.f 0) (H.f 1) (H.f 2) (H.f 3)) (RingP.mk (H.f 4) (H.f 5) (H.f 6) (H.f 7)) (H.b 1) (RingP.mk (H.f 8) (H.f 9) (H.f 10) (H.f 11)) p0 p1) ?_
 refine Run.ic (idxF [x.touch y0,x.touch y1] 0) 0 (decide (0≤(idxF [x.touch y0,x.touch y1] 0))) ?_
 exact Run.rV ((congrArg Value.bool (idxF_all _)))
theorem cf3 {w0_0 w0_1 w0_2 w0_3 w0_4 w0_5 w0_6 w0_7 w0_8 w0_9 w0_10 w0_11 w1_0 w1_1 w1_2 w1_3:Value} {b0 b1:Nat} (n0:Nat) (y0:Ci) (y1:Ci) (y2:Ci) (x:Ci) (B0:∃ r:List Value,W.heap[b0]? = some (.cells ⟨[w0_0,w0_1,w0_2,w0_3,w0_4,w0_5,w0_6,w0_7,w0_8,w0_9,w0_10,w0_11]++r⟩ 180 (0,0))) (t0_0:(RingP y0).p S (.agg #[w0_0,w0_1,w0_2,w0_3]) W) (t0_1:(RingP y1).p S (.agg #[w0_4,w0_5,w0_6,w0_7]) W) (t0_2:(RingP y2).p S (.agg #[w0_8,w0_9,w0_10,w0_11]) W) (B1:W.heap[b1]? = some (.cells #[w1_0,w1_1,w1_2,w1_3] 180 (0,0))) (t1:(RingP x).p S (.agg #[w1_0,w1_1,w1_2,w1_3]) W) (p0:ht x.a+ht x.b.re+ht x.b.im+ht x.c+(ht y0.a+ht y0.b.re+ht y0.b.im+ht y0.c)≤67108000) (p1:ht x.a+ht x.b.re+ht x.b.im+ht x.c+(ht y1.a+ht y1.b.re+ht y1.b.im+ht y1.c)≤67108000) (p2:ht x.a+ht x.b.re+ht x.b.im+ht x.c+(ht y2.a+ht y2.b.re+ht y2.b.im+ht y2.c)≤67108000):Calls Tryz.prog 224 #[.slice (some ⟨b0,0,none⟩) 3 n0,.func (.func 225) #[] #[.pointer (some ⟨b1,0,none⟩)]] W (RetV (.bool (!([x.touch y0,x.touch y1,x.touch y2].all id))) W):=by
 refine Run.goP (S:=S) ((Pack.nil.bm B0 3 n0 12 (AllF.app (ringCells t0_0) (AllF.app (ringCells t0_1) (ringCells t0_2)))).bf B1 225 4 (ringCells t1)) Tryz.func224 rfl ?_
 refine Run.cV [.int .i64 (idxF [x.touch y0,x.touch y1,x.touch y2] 0)] kb (fun _ _ _ H=>ix3 n0 y0 y1 y2 x (H.bq 0 12) (RingP.mk (H.f 0) (H.f 1) (H.f 2) (H.f 3)) (RingP.mk (H.f 4) (H.f 5) (H.f 6) (H.f 7)) (RingP.mk (H.f 8) (H.f 9) (H.f 10) (H.f 11)) (H.b 1) (RingP.mk (H.f 12) (H.f 13) (H.f 14) (H.f 15)) p0 p1 p2) ?_
 refine Run.ic (idxF [x.touch y0,x.touch y1,x.touch y2] 0) 0 (decide (0≤(idxF [x.touch y0,x.touch y1,x.touch y2] 0))) ?_
 exact Run.rV ((congrArg Value.bool (idxF_all _)))
theorem tch3 {w0_0 w0_1 w0_2 w0_3 w0_4 w0_5 w0_6 w0_7 w0_8 w0_9 w0_10 w0_11:Value} {b0:Nat} (n0:Nat) (d0:Ci) (d1:Ci) (d2:Ci) (B0:∃ r:List Value,W.heap[b0]? = some (.cells ⟨[w0_0,w0_1,w0_2,w0_3,w0_4,w0_5,w0_6,w0_7,w0_8,w0_9,w0_10,w0_11]++r⟩ 180 (0,0))) (t0_0:(RingP d0).p S (.agg #[w0_0,w0_1,w0_2,w0_3]) W) (t0_1:(RingP d1).p S (.agg #[w0_4,w0_5,w0_6,w0_7]) W) (t0_2:(RingP d2).p S (.agg #[w0_8,w0_9,w0_10,w0_11]) W) (p0:ht d1.a+ht d1.b.re+ht d1.b.im+ht d1.c+(ht d0.a+ht d0.b.re+ht d0.b.im+ht d0.c)≤67108000) (p1:ht d2.a+ht d2.b.re+ht d2.b.im+ht d2.c+(ht d0.a+ht d0.b.re+ht d0.b.im+ht d0.c)≤67108000) (p2:ht d2.a+ht d2.b.re+ht d2.b.im+ht d2.c+(ht d1.a+ht d1.b.re+ht d1.b.im+ht d1.c)≤67108000):Calls Tryz.prog 113 #[.slice (some ⟨b0,0,none⟩) 3 (n0+3)] W (RetV (.bool ([d1.touch d0].all id&&[d2.touch d0,d2.touch d1].all id)) W):=by
 refine Run.goP (S:=S) (Pack.nil.bm B0 3 (n0+3) 12 (AllF.app (ringCells t0_0) (AllF.app (ringCells t0_1) (ringCells t0_2)))) Tryz.func113 rfl ?_
 refine Run.cV [.bool (!([].all id))] kb (fun _ _ _ H=>cf0 (n0+3) d0 (H.bq 0 0) (H.b 1) (RingP.mk (H.f 0) (H.f 1) (H.f 2) (H.f 3))) ?_
 refine Run.kn (b:=false) rfl ?_
 refine Run.cV [.bool (!([d1.touch d0].all id))] kb (fun _ _ _ H=>cf1 (n0+3) d0 d1 (H.bq 0 4) (RingP.mk (H.f 0) (H.f 1) (H.f 2) (H.f 3)) (H.b 2) (RingP.mk (H.f 4) (H.f 5) (H.f 6) (H.f 7)) p0) ?_
 refine (Bool.eq_false_or_eq_true (!([d1.touch d0].all id))).elim (fun c1=>?_) (fun c1=>?_)
 · refine Run.kn c1 ?_
   exact Run.rV (V' := .bool false) ((congrArg Value.bool (by simp only [nF c1,Bool.and_false,Bool.false_and,Bool.and_true])))
 · refine Run.kn c1 ?_
   refine Run.cV [.bool (!([d2.touch d0,d2.touch d1].all id))] kb (fun _ _ _ H=>cf2 (n0+3) d0 d1 d2 (H.bq 0 8) (RingP.mk (H.f 0) (H.f 1) (H.f 2) (H.f 3)) (RingP.mk (H.f 4) (H.f 5) (H.f 6) (H.f 7)) (H.b 3) (RingP.mk (H.f 8) (H.f 9) (H.f 10) (H.f 11)) p1 p2) ?_
   refine (Bool.eq_false_or_eq_true (!([d2.touch d0,d2.touch d1].all id))).elim (fun c2=>?_) (fun c2=>?_)
   · refine Run.kn c2 ?_
     exact Run.rV (V' := .bool false) ((congrArg Value.bool (by simp only [nT c1,nF c2,Bool.and_false,Bool.false_and,Bool.and_true])))
   · refine Run.kn c2 ?_
     exact Run.rV (V' := .bool true) ((congrArg Value.bool (by simp only [nT c1,nT c2,Bool.and_false,Bool.false_and,Bool.and_true])))
theorem tch4 {w0_0 w0_1 w0_2 w0_3 w0_4 w0_5 w0_6 w0_7 w0_8 w0_9 w0_10 w0_11 w0_12 w0_13 w0_14 w0_15:Value} {b0:Nat} (n0:Nat) (d0:Ci) (d1:Ci) (d2:Ci) (d3:Ci) (B0:∃ r:List Value,W.heap[b0]? = some (.cells ⟨[w0_0,w0_1,w0_2,w0_3,w0_4,w0_5,w0_6,w0_7,w0_8,w0_9,w0_10,w0_11,w0_12,w0_13,w0_14,w0_15]++r⟩ 180 (0,0))) (t0_0:(RingP d0).p S (.agg #[w0_0,w0_1,w0_2,w0_3]) W) (t0_1:(RingP d1).p S (.agg #[w0_4,w0_5,w0_6,w0_7]) W) (t0_2:(RingP d2).p S (.agg #[w0_8,w0_9,w0_10,w0_11]) W) (t0_3:(RingP d3).p S (.agg #[w0_12,w0_13,w0_14,w0_15]) W) (p0:ht d1.a+ht d1.b.re+ht d1.b.im+ht d1.c+(ht d0.a+ht d0.b.re+ht d0.b.im+ht d0.c)≤67108000) (p1:ht d2.a+ht d2.b.re+ht d2.b.im+ht d2.c+(ht d0.a+ht d0.b.re+ht d0.b.im+ht d0.c)≤67108000) (p2:ht d2.a+ht d2.b.re+ht d2.b.im+ht d2.c+(ht d1.a+ht d1.b.re+ht d1.b.im+ht d1.c)≤67108000) (p3:ht d3.a+ht d3.b.re+ht d3.b.im+ht d3.c+(ht d0.a+ht d0.b.re+ht d0.b.im+ht d0.c)≤67108000) (p4:ht d3.a+ht d3.b.re+ht d3.b.im+ht d3.c+(ht d1.a+ht d1.b.re+ht d1.b.im+ht d1.c)≤67108000) (p5:ht d3.a+ht d3.b.re+ht d3.b.im+ht d3.c+(ht d2.a+ht d2.b.re+ht d2.b.im+ht d2.c)≤67108000):Calls Tryz.prog 113 #[.slice (some ⟨b0,0,none⟩) 4 (n0+4)] W (RetV (.bool ([d1.touch d0].all id&&[d2.touch d0,d2.touch d1].all id&&[d3.touch d0,d3.touch d1,d3.touch d2].all id)) W):=by
 refine Run.goP (S:=S) (Pack.nil.bm B0 4 (n0+4) 16 (AllF.app (ringCells t0_0) (AllF.app (ringCells t0_1) (AllF.app (ringCells t0_2) (ringCells t0_3))))) Tryz.func113 rfl ?_
 refine Run.cV [.bool (!([].all id))] kb (fun _ _ _ H=>cf0 (n0+4) d0 (H.bq 0 0) (H.b 1) (RingP.mk (H.f 0) (H.f 1) (H.f 2) (H.f 3))) ?_
 refine Run.kn (b:=false) rfl ?_
 refine Run.cV [.bool (!([d1.touch d0].all id))] kb (fun _ _ _ H=>cf1 (n0+4) d0 d1 (H.bq 0 4) (RingP.mk (H.f 0) (H.f 1) (H.f 2) (H.f 3)) (H.b 2) (RingP.mk (H.f 4) (H.f 5) (H.f 6) (H.f 7)) p0) ?_
 refine (Bool.eq_false_or_eq_true (!([d1.touch d0].all id))).elim (fun c1=>?_) (fun c1=>?_)
 · refine Run.kn c1 ?_
   exact Run.rV (V' := .bool false) ((congrArg Value.bool (by simp only [nF c1,Bool.and_false,Bool.false_and,Bool.and_true])))
 · refine Run.kn c1 ?_
   refine Run.cV [.bool (!([d2.touch d0,d2.touch d1].all id))] kb (fun _ _ _ H=>cf2 (n0+4) d0 d1 d2 (H.bq 0 8) (RingP.mk (H.f 0) (H.f 1) (H.f 2) (H.f 3)) (RingP.mk (H.f 4) (H.f 5) (H.f 6) (H.f 7)) (H.b 3) (RingP.mk (H.f 8) (H.f 9) (H.f 10) (H.f 11)) p1 p2) ?_
   refine (Bool.eq_false_or_eq_true (!([d2.touch d0,d2.touch d1].all id))).elim (fun c2=>?_) (fun c2=>?_)
   · refine Run.kn c2 ?_
     exact Run.rV (V' := .bool false) ((congrArg Value.bool (by simp only [nT c1,nF c2,Bool.and_false,Bool.false_and,Bool.and_true])))
   · refine Run.kn c2 ?_
     refine Run.cV [.bool (!([d3.touch d0,d3.touch d1,d3.touch d2].all id))] kb (fun _ _ _ H=>cf3 (n0+4) d0 d1 d2 d3 (H.bq 0 12) (RingP.mk (H.f 0) (H.f 1) (H.f 2) (H.f 3)) (RingP.mk (H.f 4) (H.f 5) (H.f 6) (H.f 7)) (RingP.mk (H.f 8) (H.f 9) (H.f 10) (H.f 11)) (H.b 4) (RingP.mk (H.f 12) (H.f 13) (H.f 14) (H.f 15)) p3 p4 p5) ?_
     refine (Bool.eq_false_or_eq_true (!([d3.touch d0,d3.touch d1,d3.touch d2].all id))).elim (fun c3=>?_) (fun c3=>?_)
     · refine Run.kn c3 ?_
       exact Run.rV (V' := .bool false) ((congrArg Value.bool (by simp only [nT c1,nT c2,nF c3,Bool.and_false,Bool.false_and,Bool.and_true])))
     · refine Run.kn c3 ?_
       exact Run.rV (V' := .bool true) ((congrArg Value.bool (by simp only [nT c1,nT c2,nT c3,Bool.and_false,Bool.false_and,Bool.and_true])))
theorem pl2Y {b0:Nat} (T0:TypeId) (d0:Ci) (d1:Ci) (B0:W.heap[b0]? = some (.cells (⟨(ciC d0).toList++((ciC d1).toList)⟩) T0 (0,0))) (p0:dsOk (rci d0)=true) (p1:dsOk (rci d1)=true):Calls Tryz.prog 112 #[.slice (some ⟨b0,0,none⟩) 2 2] W (RetB 180 2 (ringF [d0,d1]) (.bool true) S W):=by
 refine Run.goP (S:=S) (Pack.nil.b B0 (some 2) 32) Tryz.func112 rfl ?_
 refine Run.cR (spRingC true) (fun _ _ _ H=>ePlateO d0 p0) ?_
 refine Run.a0 180 172 3 (fun cp1=>?_)
 refine Run.cR (spRingC true) (fun _ _ _ H=>ePlateO d1 p1) ?_
 refine Run.ap 172 4 1 cp1 7 (fun cp2=>?_)
 exact Run.rB 4 cp2
theorem pl3Y {b0:Nat} (T0:TypeId) (d0:Ci) (d1:Ci) (d2:Ci) (B0:W.heap[b0]? = some (.cells (⟨(ciC d0).toList++((ciC d1).toList++((ciC d2).toList))⟩) T0 (0,0))) (p0:dsOk (rci d0)=true) (p1:dsOk (rci d1)=true) (p2:dsOk (rci d2)=true):Calls Tryz.prog 112 #[.slice (some ⟨b0,0,none⟩) 3 3] W (RetB 180 3 (ringF [d0,d1,d2]) (.bool true) S W):=by
 refine Run.goP (S:=S) (Pack.nil.b B0 (some 3) 48) Tryz.func112 rfl ?_
 refine Run.cR (spRingC true) (fun _ _ _ H=>ePlateO d0 p0) ?_
 refine Run.a0 180 172 3 (fun cp1=>?_)
 refine Run.cR (spRingC true) (fun _ _ _ H=>ePlateO d1 p1) ?_
 refine Run.ap 172 4 1 cp1 7 (fun cp2=>?_)
 refine Run.cR (spRingC true) (fun _ _ _ H=>ePlateO d2 p2) ?_
 refine Run.ap 172 4 2 cp2 10 (fun cp3=>?_)
 exact Run.rB 4 cp3
theorem pl30 {b0:Nat} (T0:TypeId) (r0:RCi) (r1:RCi) (r2:RCi) (B0:W.heap[b0]? = some (.cells (⟨(rciC r0).toList++((rciC r1).toList++((rciC r2).toList))⟩) T0 (0,0))) (p0:dsOk r0=false):Calls Tryz.prog 112 #[.slice (some ⟨b0,0,none⟩) 3 3] W (RetV (.tuple #[.slice none 0 0,.bool false]) W):=by
 refine Run.goP (S:=Z0) (Pack.nil.b B0 (some 3) 48) Tryz.func112 rfl ?_
 refine Run.cR (spRingJC false) (fun _ _ _ H=>ePlateN r0 p0) ?_
 exact Run.rV rfl
theorem pl31 {b0:Nat} (T0:TypeId) (d0:Ci) (r1:RCi) (r2:RCi) (B0:W.heap[b0]? = some (.cells (⟨(ciC d0).toList++((rciC r1).toList++((rciC r2).toList))⟩) T0 (0,0))) (p0:dsOk (rci d0)=true) (p1:dsOk r1=false):Calls Tryz.prog 112 #[.slice (some ⟨b0,0,none⟩) 3 3] W (RetV (.tuple #[.slice none 0 0,.bool false]) W):=by
 refine Run.goP (S:=Z0) (Pack.nil.b B0 (some 3) 48) Tryz.func112 rfl ?_
 refine Run.cR (spRingC true) (fun _ _ _ H=>ePlateO d0 p0) ?_
 refine Run.a0 180 172 3 (fun cp1=>?_)
 refine Run.cR (spRingJC false) (fun _ _ _ H=>ePlateN r1 p1) ?_
 exact Run.rV rfl
theorem pl32 {b0:Nat} (T0:TypeId) (d0:Ci) (d1:Ci) (r2:RCi) (B0:W.heap[b0]? = some (.cells (⟨(ciC d0).toList++((ciC d1).toList++((rciC r2).toList))⟩) T0 (0,0))) (p0:dsOk (rci d0)=true) (p1:dsOk (rci d1)=true) (p2:dsOk r2=false):Calls Tryz.prog 112 #[.slice (some ⟨b0,0,none⟩) 3 3] W (RetV (.tuple #[.slice none 0 0,.bool false]) W):=by
 refine Run.goP (S:=Z0) (Pack.nil.b B0 (some 3) 48) Tryz.func112 rfl ?_
 refine Run.cR (spRingC true) (fun _ _ _ H=>ePlateO d0 p0) ?_
 refine Run.a0 180 172 3 (fun cp1=>?_)
 refine Run.cR (spRingC true) (fun _ _ _ H=>ePlateO d1 p1) ?_
 refine Run.ap 172 4 1 cp1 7 (fun cp2=>?_)
 refine Run.cR (spRingJC false) (fun _ _ _ H=>ePlateN r2 p2) ?_
 exact Run.rV rfl
theorem pl4Y {b0:Nat} (T0:TypeId) (d0:Ci) (d1:Ci) (d2:Ci) (d3:Ci) (B0:W.heap[b0]? = some (.cells (⟨(ciC d0).toList++((ciC d1).toList++((ciC d2).toList++((ciC d3).toList)))⟩) T0 (0,0))) (p0:dsOk (rci d0)=true) (p1:dsOk (rci d1)=true) (p2:dsOk (rci d2)=true) (p3:dsOk (rci d3)=true):Calls Tryz.prog 112 #[.slice (some ⟨b0,0,none⟩) 4 4] W (RetB 180 4 (ringF [d0,d1,d2,d3]) (.bool true) S W):=by
 refine Run.goP (S:=S) (Pack.nil.b B0 (some 4) 64) Tryz.func112 rfl ?_
 refine Run.cR (spRingC true) (fun _ _ _ H=>ePlateO d0 p0) ?_
 refine Run.a0 180 172 3 (fun cp1=>?_)
 refine Run.cR (spRingC true) (fun _ _ _ H=>ePlateO d1 p1) ?_
 refine Run.ap 172 4 1 cp1 7 (fun cp2=>?_)
 refine Run.cR (spRingC true) (fun _ _ _ H=>ePlateO d2 p2) ?_
 refine Run.ap 172 4 2 cp2 10 (fun cp3=>?_)
 refine Run.cR (spRingC true) (fun _ _ _ H=>ePlateO d3 p3) ?_
 refine Run.ap 172 4 3 cp3 13 (fun cp4=>?_)
 exact Run.rB 4 cp4
theorem acm0 {w1_0 w1_1 w1_2 w1_3 w1_4 w1_5 w1_6 w1_7 w1_8 w1_9 w1_10 w1_11:Value} {b1:Nat} (x0:Rat) (x1:Rat) (x2:Rat) (x3:Rat) (y0:Rat) (y1:Rat) (y2:Rat) (y3:Rat) (z0:Rat) (z1:Rat) (z2:Rat) (z3:Rat) (B1:W.heap[b1]? = some (.cells #[w1_0,w1_1,w1_2,w1_3,w1_4,w1_5,w1_6,w1_7,w1_8,w1_9,w1_10,w1_11] 299 (0,0))) (hw1_0:(RatP x0).p S w1_0 W) (hw1_1:(RatP x1).p S w1_1 W) (hw1_2:(RatP x2).p S w1_2 W) (hw1_3:(RatP x3).p S w1_3 W) (hw1_4:(RatP y0).p S w1_4 W) (hw1_5:(RatP y1).p S w1_5 W) (hw1_6:(RatP y2).p S w1_6 W) (hw1_7:(RatP y3).p S w1_7 W) (hw1_8:(RatP z0).p S w1_8 W) (hw1_9:(RatP z1).p S w1_9 W) (hw1_10:(RatP z2).p S w1_10 W) (hw1_11:(RatP z3).p S w1_11 W) (p0:ht x0+ht x1+ht x2+ht x3≤40000) (p1:ht y0+ht y1+ht y2+ht y3≤40000) (p2:ht z0+ht z1+ht z2+ht z3≤40000):Calls Tryz.prog 228 #[.int .i64 0,.pointer (some ⟨b1,0,none⟩)] W (Ret (RatP (mn3 x1 x2 x3 y1 y2 y3 z1 z2 z3)) Z0 W):=by
 obtain ⟨ex0,ex1,ex2,ex3,ey0,ey1,ey2,ey3,ez0,ez1,ez2,ez3⟩:ht x0≤40000∧ht x1≤40000∧ht x2≤40000∧ht x3≤40000∧ht y0≤40000∧ht y1≤40000∧ht y2≤40000∧ht y3≤40000∧ht z0≤40000∧ht z1≤40000∧ht z2≤40000∧ht z3≤40000:=by omega
 have k0:=hb_mul ey2 ez3 80000
 have k1:=hb_mul ey3 ez2 80000
 have k2:=hb_sub k0 k1 160000
 have k3:=hb_mul k2 ex1 200000
 have k4:=hb_add (Nat.le_of_eq ht_zero) k3 200002
 have k5:=hb_mul ey3 ez1 80000
 have k6:=hb_mul ey1 ez3 80000
 have k7:=hb_sub k5 k6 160000
 have k8:=hb_mul k7 ex2 200000
 have k9:=hb_add k4 k8 400002
 have k10:=hb_mul ey1 ez2 80000
 have k11:=hb_mul ey2 ez1 80000
 have k12:=hb_sub k10 k11 160000
 have k13:=hb_mul k12 ex3 200000
 have k14:=hb_add k9 k13 600002
 refine Run.goP (S:=S) ((Pack.nil.k (.int .i64 0) [] (.s (.o (.c (.int .i64 0))))).bv B1 none 12 (AllF.rat hw1_0 (AllF.rat hw1_1 (AllF.rat hw1_2 (AllF.rat hw1_3 (AllF.rat hw1_4 (AllF.rat hw1_5 (AllF.rat hw1_6 (AllF.rat hw1_7 (AllF.rat hw1_8 (AllF.rat hw1_9 (AllF.rat hw1_10 (AllF.rat hw1_11 AllF.z))))))))))))) Tryz.func228 rfl ?_
 refine Run.a0 3 75 1 (fun cp1=>?_)
 refine Run.ap 75 2 1 cp1 3 (fun cp2=>?_)
 refine Run.ap 75 2 2 cp2 4 (fun cp3=>?_)
 refine Run.dr ?_
 refine RunD.en ?_
 refine Run.dr ?_
 refine RunD.cO 6 softRat (fun _ _ _ H=>qMul y2 z3 (RatP.blk (H.oz 6)) (anyV (H.f 6)) (anyV (H.f 11)) (Nat.le_trans (Nat.add_le_add ey2 ez3) (by decide))) ?_
 refine RunD.en ?_
 refine Run.dr ?_
 refine RunD.cO 7 softRat (fun _ _ _ H=>qMul y3 z2 (RatP.blk (H.oz 7)) (anyV (H.f 7)) (anyV (H.f 10)) (Nat.le_trans (Nat.add_le_add ey3 ez2) (by decide))) ?_
 refine RunD.cO 6 softRat (fun _ _ _ H=>qSub (y2*z3) (y3*z2) (RatP.blk (q:=y2*z3) (H.o 6)) (anyV (H.o 6)) (anyV (H.o 7)) (Nat.le_trans (Nat.add_le_add k0 k1) (by decide))) ?_
 refine RunD.en ?_
 refine Run.cO 6 softRat (fun _ _ _ H=>qMul ((y2*z3)-(y3*z2)) x1 (RatP.blk (q:=(y2*z3)-(y3*z2)) (H.o 6)) (anyV (H.o 6)) (anyV (H.f 1)) (Nat.le_trans (Nat.add_le_add k2 ex1) (by decide))) ?_
 refine Run.cO 5 softRat (fun _ _ _ H=>qAdd (0:Rat) (((y2*z3)-(y3*z2))*x1) (RatP.blk (H.oz 5)) (anyV (H.oz 5)) (anyV (H.o 6)) (Nat.le_trans (Nat.add_le_add (Nat.le_of_eq ht_zero) k3) (by decide))) ?_
 refine Run.dr ?_
 refine RunD.en ?_
 refine Run.dr ?_
 refine RunD.cO 8 softRat (fun _ _ _ H=>qMul y3 z1 (RatP.blk (H.oz 8)) (anyV (H.f 7)) (anyV (H.f 9)) (Nat.le_trans (Nat.add_le_add ey3 ez1) (by decide))) ?_
 refine RunD.en ?_
 refine Run.dr ?_
 refine RunD.cO 9 softRat (fun _ _ _ H=>qMul y1 z3 (RatP.blk (H.oz 9)) (anyV (H.f 5)) (anyV (H.f 11)) (Nat.le_trans (Nat.add_le_add ey1 ez3) (by decide))) ?_
 refine RunD.cO 8 softRat (fun _ _ _ H=>qSub (y3*z1) (y1*z3) (RatP.blk (q:=y3*z1) (H.o 8)) (anyV (H.o 8)) (anyV (H.o 9)) (Nat.le_trans (Nat.add_le_add k5 k6) (by decide))) ?_
 refine RunD.en ?_
 refine Run.cO 8 softRat (fun _ _ _ H=>qMul ((y3*z1)-(y1*z3)) x2 (RatP.blk (q:=(y3*z1)-(y1*z3)) (H.o 8)) (anyV (H.o 8)) (anyV (H.f 2)) (Nat.le_trans (Nat.add_le_add k7 ex2) (by decide))) ?_
 refine Run.cO 5 softRat (fun _ _ _ H=>qAdd ((0:Rat)+(((y2*z3)-(y3*z2))*x1)) (((y3*z1)-(y1*z3))*x2) (RatP.blk (q:=(0:Rat)+(((y2*z3)-(y3*z2))*x1)) (H.o 5)) (anyV (H.o 5)) (anyV (H.o 8)) (Nat.le_trans (Nat.add_le_add k4 k8) (by decide))) ?_
 refine Run.dr ?_
 refine RunD.en ?_
 refine Run.dr ?_
 refine RunD.cO 10 softRat (fun _ _ _ H=>qMul y1 z2 (RatP.blk (H.oz 10)) (anyV (H.f 5)) (anyV (H.f 10)) (Nat.le_trans (Nat.add_le_add ey1 ez2) (by decide))) ?_
 refine RunD.en ?_
 refine Run.dr ?_
 refine RunD.cO 11 softRat (fun _ _ _ H=>qMul y2 z1 (RatP.blk (H.oz 11)) (anyV (H.f 6)) (anyV (H.f 9)) (Nat.le_trans (Nat.add_le_add ey2 ez1) (by decide))) ?_
 refine RunD.cO 10 softRat (fun _ _ _ H=>qSub (y1*z2) (y2*z1) (RatP.blk (q:=y1*z2) (H.o 10)) (anyV (H.o 10)) (anyV (H.o 11)) (Nat.le_trans (Nat.add_le_add k10 k11) (by decide))) ?_
 refine RunD.en ?_
 refine Run.cO 10 softRat (fun _ _ _ H=>qMul ((y1*z2)-(y2*z1)) x3 (RatP.blk (q:=(y1*z2)-(y2*z1)) (H.o 10)) (anyV (H.o 10)) (anyV (H.f 3)) (Nat.le_trans (Nat.add_le_add k12 ex3) (by decide))) ?_
 refine Run.cO 5 softRat (fun _ _ _ H=>qAdd (((0:Rat)+(((y2*z3)-(y3*z2))*x1))+(((y3*z1)-(y1*z3))*x2)) (((y1*z2)-(y2*z1))*x3) (RatP.blk (q:=((0:Rat)+(((y2*z3)-(y3*z2))*x1))+(((y3*z1)-(y1*z3))*x2)) (H.o 5)) (anyV (H.o 5)) (anyV (H.o 10)) (Nat.le_trans (Nat.add_le_add k9 k13) (by decide))) ?_
 exact Run.rN (φ:=RatP (mn3 x1 x2 x3 y1 y2 y3 z1 z2 z3)) 5 (fun _ _ _ H=>⟨H.ow 5,VPe (φ:=RatP) (rfl) (H.o 5)⟩)
theorem acm1 {w1_0 w1_1 w1_2 w1_3 w1_4 w1_5 w1_6 w1_7 w1_8 w1_9 w1_10 w1_11:Value} {b1:Nat} (x0:Rat) (x1:Rat) (x2:Rat) (x3:Rat) (y0:Rat) (y1:Rat) (y2:Rat) (y3:Rat) (z0:Rat) (z1:Rat) (z2:Rat) (z3:Rat) (B1:W.heap[b1]? = some (.cells #[w1_0,w1_1,w1_2,w1_3,w1_4,w1_5,w1_6,w1_7,w1_8,w1_9,w1_10,w1_11] 299 (0,0))) (hw1_0:(RatP x0).p S w1_0 W) (hw1_1:(RatP x1).p S w1_1 W) (hw1_2:(RatP x2).p S w1_2 W) (hw1_3:(RatP x3).p S w1_3 W) (hw1_4:(RatP y0).p S w1_4 W) (hw1_5:(RatP y1).p S w1_5 W) (hw1_6:(RatP y2).p S w1_6 W) (hw1_7:(RatP y3).p S w1_7 W) (hw1_8:(RatP z0).p S w1_8 W) (hw1_9:(RatP z1).p S w1_9 W) (hw1_10:(RatP z2).p S w1_10 W) (hw1_11:(RatP z3).p S w1_11 W) (p0:ht x0+ht x1+ht x2+ht x3≤40000) (p1:ht y0+ht y1+ht y2+ht y3≤40000) (p2:ht z0+ht z1+ht z2+ht z3≤40000):Calls Tryz.prog 228 #[.int .i64 1,.pointer (some ⟨b1,0,none⟩)] W (Ret (RatP (-(mn3 x0 x2 x3 y0 y2 y3 z0 z2 z3))) Z0 W):=by
 obtain ⟨ex0,ex1,ex2,ex3,ey0,ey1,ey2,ey3,ez0,ez1,ez2,ez3⟩:ht x0≤40000∧ht x1≤40000∧ht x2≤40000∧ht x3≤40000∧ht y0≤40000∧ht y1≤40000∧ht y2≤40000∧ht y3≤40000∧ht z0≤40000∧ht z1≤40000∧ht z2≤40000∧ht z3≤40000:=by omega
 have k0:=hb_mul ey2 ez3 80000
 have k1:=hb_mul ey3 ez2 80000
 have k2:=hb_sub k0 k1 160000
 have k3:=hb_mul k2 ex0 200000
 have k4:=hb_add (Nat.le_of_eq ht_zero) k3 200002
 have k5:=hb_mul ey3 ez0 80000
 have k6:=hb_mul ey0 ez3 80000
 have k7:=hb_sub k5 k6 160000
 have k8:=hb_mul k7 ex2 200000
 have k9:=hb_add k4 k8 400002
 have k10:=hb_mul ey0 ez2 80000
 have k11:=hb_mul ey2 ez0 80000
 have k12:=hb_sub k10 k11 160000
 have k13:=hb_mul k12 ex3 200000
 have k14:=hb_add k9 k13 600002
 have k15:=hb_neg k14
 refine Run.goP (S:=S) ((Pack.nil.k (.int .i64 1) [] (.s (.o (.c (.int .i64 1))))).bv B1 none 12 (AllF.rat hw1_0 (AllF.rat hw1_1 (AllF.rat hw1_2 (AllF.rat hw1_3 (AllF.rat hw1_4 (AllF.rat hw1_5 (AllF.rat hw1_6 (AllF.rat hw1_7 (AllF.rat hw1_8 (AllF.rat hw1_9 (AllF.rat hw1_10 (AllF.rat hw1_11 AllF.z))))))))))))) Tryz.func228 rfl ?_
 refine Run.a0 3 75 1 (fun cp1=>?_)
 refine Run.ap 75 2 1 cp1 3 (fun cp2=>?_)
 refine Run.ap 75 2 2 cp2 4 (fun cp3=>?_)
 refine Run.dr ?_
 refine RunD.en ?_
 refine Run.dr ?_
 refine RunD.cO 6 softRat (fun _ _ _ H=>qMul y2 z3 (RatP.blk (H.oz 6)) (anyV (H.f 6)) (anyV (H.f 11)) (Nat.le_trans (Nat.add_le_add ey2 ez3) (by decide))) ?_
 refine RunD.en ?_
 refine Run.dr ?_
 refine RunD.cO 7 softRat (fun _ _ _ H=>qMul y3 z2 (RatP.blk (H.oz 7)) (anyV (H.f 7)) (anyV (H.f 10)) (Nat.le_trans (Nat.add_le_add ey3 ez2) (by decide))) ?_
 refine RunD.cO 6 softRat (fun _ _ _ H=>qSub (y2*z3) (y3*z2) (RatP.blk (q:=y2*z3) (H.o 6)) (anyV (H.o 6)) (anyV (H.o 7)) (Nat.le_trans (Nat.add_le_add k0 k1) (by decide))) ?_
 refine RunD.en ?_
 refine Run.cO 6 softRat (fun _ _ _ H=>qMul ((y2*z3)-(y3*z2)) x0 (RatP.blk (q:=(y2*z3)-(y3*z2)) (H.o 6)) (anyV (H.o 6)) (anyV (H.f 0)) (Nat.le_trans (Nat.add_le_add k2 ex0) (by decide))) ?_
 refine Run.cO 5 softRat (fun _ _ _ H=>qAdd (0:Rat) (((y2*z3)-(y3*z2))*x0) (RatP.blk (H.oz 5)) (anyV (H.oz 5)) (anyV (H.o 6)) (Nat.le_trans (Nat.add_le_add (Nat.le_of_eq ht_zero) k3) (by decide))) ?_
 refine Run.dr ?_
 refine RunD.en ?_
 refine Run.dr ?_
 refine RunD.cO 8 softRat (fun _ _ _ H=>qMul y3 z0 (RatP.blk (H.oz 8)) (anyV (H.f 7)) (anyV (H.f 8)) (Nat.le_trans (Nat.add_le_add ey3 ez0) (by decide))) ?_
 refine RunD.en ?_
 refine Run.dr ?_
 refine RunD.cO 9 softRat (fun _ _ _ H=>qMul y0 z3 (RatP.blk (H.oz 9)) (anyV (H.f 4)) (anyV (H.f 11)) (Nat.le_trans (Nat.add_le_add ey0 ez3) (by decide))) ?_
 refine RunD.cO 8 softRat (fun _ _ _ H=>qSub (y3*z0) (y0*z3) (RatP.blk (q:=y3*z0) (H.o 8)) (anyV (H.o 8)) (anyV (H.o 9)) (Nat.le_trans (Nat.add_le_add k5 k6) (by decide))) ?_
 refine RunD.en ?_
 refine Run.cO 8 softRat (fun _ _ _ H=>qMul ((y3*z0)-(y0*z3)) x2 (RatP.blk (q:=(y3*z0)-(y0*z3)) (H.o 8)) (anyV (H.o 8)) (anyV (H.f 2)) (Nat.le_trans (Nat.add_le_add k7 ex2) (by decide))) ?_
 refine Run.cO 5 softRat (fun _ _ _ H=>qAdd ((0:Rat)+(((y2*z3)-(y3*z2))*x0)) (((y3*z0)-(y0*z3))*x2) (RatP.blk (q:=(0:Rat)+(((y2*z3)-(y3*z2))*x0)) (H.o 5)) (anyV (H.o 5)) (anyV (H.o 8)) (Nat.le_trans (Nat.add_le_add k4 k8) (by decide))) ?_
 refine Run.dr ?_
 refine RunD.en ?_
 refine Run.dr ?_
 refine RunD.cO 10 softRat (fun _ _ _ H=>qMul y0 z2 (RatP.blk (H.oz 10)) (anyV (H.f 4)) (anyV (H.f 10)) (Nat.le_trans (Nat.add_le_add ey0 ez2) (by decide))) ?_
 refine RunD.en ?_
 refine Run.dr ?_
 refine RunD.cO 11 softRat (fun _ _ _ H=>qMul y2 z0 (RatP.blk (H.oz 11)) (anyV (H.f 6)) (anyV (H.f 8)) (Nat.le_trans (Nat.add_le_add ey2 ez0) (by decide))) ?_
 refine RunD.cO 10 softRat (fun _ _ _ H=>qSub (y0*z2) (y2*z0) (RatP.blk (q:=y0*z2) (H.o 10)) (anyV (H.o 10)) (anyV (H.o 11)) (Nat.le_trans (Nat.add_le_add k10 k11) (by decide))) ?_
 refine RunD.en ?_
 refine Run.cO 10 softRat (fun _ _ _ H=>qMul ((y0*z2)-(y2*z0)) x3 (RatP.blk (q:=(y0*z2)-(y2*z0)) (H.o 10)) (anyV (H.o 10)) (anyV (H.f 3)) (Nat.le_trans (Nat.add_le_add k12 ex3) (by decide))) ?_
 refine Run.cO 5 softRat (fun _ _ _ H=>qAdd (((0:Rat)+(((y2*z3)-(y3*z2))*x0))+(((y3*z0)-(y0*z3))*x2)) (((y0*z2)-(y2*z0))*x3) (RatP.blk (q:=((0:Rat)+(((y2*z3)-(y3*z2))*x0))+(((y3*z0)-(y0*z3))*x2)) (H.o 5)) (anyV (H.o 5)) (anyV (H.o 10)) (Nat.le_trans (Nat.add_le_add k9 k13) (by decide))) ?_
 refine Run.cO 5 softRat (fun _ _ _ H=>qNeg ((((0:Rat)+(((y2*z3)-(y3*z2))*x0))+(((y3*z0)-(y0*z3))*x2))+(((y0*z2)-(y2*z0))*x3)) (RatP.blk (q:=(((0:Rat)+(((y2*z3)-(y3*z2))*x0))+(((y3*z0)-(y0*z3))*x2))+(((y0*z2)-(y2*z0))*x3)) (H.o 5)) (anyV (H.o 5)) (Nat.le_trans k14 (by decide))) ?_
 exact Run.rN (φ:=RatP (-(mn3 x0 x2 x3 y0 y2 y3 z0 z2 z3))) 5 (fun _ _ _ H=>⟨H.ow 5,VPe (φ:=RatP) (rfl) (H.o 5)⟩)
theorem acm2 {w1_0 w1_1 w1_2 w1_3 w1_4 w1_5 w1_6 w1_7 w1_8 w1_9 w1_10 w1_11:Value} {b1:Nat} (x0:Rat) (x1:Rat) (x2:Rat) (x3:Rat) (y0:Rat) (y1:Rat) (y2:Rat) (y3:Rat) (z0:Rat) (z1:Rat) (z2:Rat) (z3:Rat) (B1:W.heap[b1]? = some (.cells #[w1_0,w1_1,w1_2,w1_3,w1_4,w1_5,w1_6,w1_7,w1_8,w1_9,w1_10,w1_11] 299 (0,0))) (hw1_0:(RatP x0).p S w1_0 W) (hw1_1:(RatP x1).p S w1_1 W) (hw1_2:(RatP x2).p S w1_2 W) (hw1_3:(RatP x3).p S w1_3 W) (hw1_4:(RatP y0).p S w1_4 W) (hw1_5:(RatP y1).p S w1_5 W) (hw1_6:(RatP y2).p S w1_6 W) (hw1_7:(RatP y3).p S w1_7 W) (hw1_8:(RatP z0).p S w1_8 W) (hw1_9:(RatP z1).p S w1_9 W) (hw1_10:(RatP z2).p S w1_10 W) (hw1_11:(RatP z3).p S w1_11 W) (p0:ht x0+ht x1+ht x2+ht x3≤40000) (p1:ht y0+ht y1+ht y2+ht y3≤40000) (p2:ht z0+ht z1+ht z2+ht z3≤40000):Calls Tryz.prog 228 #[.int .i64 2,.pointer (some ⟨b1,0,none⟩)] W (Ret (RatP (mn3 x0 x1 x3 y0 y1 y3 z0 z1 z3)) Z0 W):=by
 obtain ⟨ex0,ex1,ex2,ex3,ey0,ey1,ey2,ey3,ez0,ez1,ez2,ez3⟩:ht x0≤40000∧ht x1≤40000∧ht x2≤40000∧ht x3≤40000∧ht y0≤40000∧ht y1≤40000∧ht y2≤40000∧ht y3≤40000∧ht z0≤40000∧ht z1≤40000∧ht z2≤40000∧ht z3≤40000:=by omega
 have k0:=hb_mul ey1 ez3 80000
 have k1:=hb_mul ey3 ez1 80000
 have k2:=hb_sub k0 k1 160000
 have k3:=hb_mul k2 ex0 200000
 have k4:=hb_add (Nat.le_of_eq ht_zero) k3 200002
 have k5:=hb_mul ey3 ez0 80000
 have k6:=hb_mul ey0 ez3 80000
 have k7:=hb_sub k5 k6 160000
 have k8:=hb_mul k7 ex1 200000
 have k9:=hb_add k4 k8 400002
 have k10:=hb_mul ey0 ez1 80000
 have k11:=hb_mul ey1 ez0 80000
 have k12:=hb_sub k10 k11 160000
 have k13:=hb_mul k12 ex3 200000
 have k14:=hb_add k9 k13 600002
 refine Run.goP (S:=S) ((Pack.nil.k (.int .i64 2) [] (.s (.o (.c (.int .i64 2))))).bv B1 none 12 (AllF.rat hw1_0 (AllF.rat hw1_1 (AllF.rat hw1_2 (AllF.rat hw1_3 (AllF.rat hw1_4 (AllF.rat hw1_5 (AllF.rat hw1_6 (AllF.rat hw1_7 (AllF.rat hw1_8 (AllF.rat hw1_9 (AllF.rat hw1_10 (AllF.rat hw1_11 AllF.z))))))))))))) Tryz.func228 rfl ?_
 refine Run.a0 3 75 1 (fun cp1=>?_)
 refine Run.ap 75 2 1 cp1 3 (fun cp2=>?_)
 refine Run.ap 75 2 2 cp2 4 (fun cp3=>?_)
 refine Run.dr ?_
 refine RunD.en ?_
 refine Run.dr ?_
 refine RunD.cO 6 softRat (fun _ _ _ H=>qMul y1 z3 (RatP.blk (H.oz 6)) (anyV (H.f 5)) (anyV (H.f 11)) (Nat.le_trans (Nat.add_le_add ey1 ez3) (by decide))) ?_
 refine RunD.en ?_
 refine Run.dr ?_
 refine RunD.cO 7 softRat (fun _ _ _ H=>qMul y3 z1 (RatP.blk (H.oz 7)) (anyV (H.f 7)) (anyV (H.f 9)) (Nat.le_trans (Nat.add_le_add ey3 ez1) (by decide))) ?_
 refine RunD.cO 6 softRat (fun _ _ _ H=>qSub (y1*z3) (y3*z1) (RatP.blk (q:=y1*z3) (H.o 6)) (anyV (H.o 6)) (anyV (H.o 7)) (Nat.le_trans (Nat.add_le_add k0 k1) (by decide))) ?_
 refine RunD.en ?_
 refine Run.cO 6 softRat (fun _ _ _ H=>qMul ((y1*z3)-(y3*z1)) x0 (RatP.blk (q:=(y1*z3)-(y3*z1)) (H.o 6)) (anyV (H.o 6)) (anyV (H.f 0)) (Nat.le_trans (Nat.add_le_add k2 ex0) (by decide))) ?_
 refine Run.cO 5 softRat (fun _ _ _ H=>qAdd (0:Rat) (((y1*z3)-(y3*z1))*x0) (RatP.blk (H.oz 5)) (anyV (H.oz 5)) (anyV (H.o 6)) (Nat.le_trans (Nat.add_le_add (Nat.le_of_eq ht_zero) k3) (by decide))) ?_
 refine Run.dr ?_
 refine RunD.en ?_
 refine Run.dr ?_
 refine RunD.cO 8 softRat (fun _ _ _ H=>qMul y3 z0 (RatP.blk (H.oz 8)) (anyV (H.f 7)) (anyV (H.f 8)) (Nat.le_trans (Nat.add_le_add ey3 ez0) (by decide))) ?_
 refine RunD.en ?_
 refine Run.dr ?_
 refine RunD.cO 9 softRat (fun _ _ _ H=>qMul y0 z3 (RatP.blk (H.oz 9)) (anyV (H.f 4)) (anyV (H.f 11)) (Nat.le_trans (Nat.add_le_add ey0 ez3) (by decide))) ?_
 refine RunD.cO 8 softRat (fun _ _ _ H=>qSub (y3*z0) (y0*z3) (RatP.blk (q:=y3*z0) (H.o 8)) (anyV (H.o 8)) (anyV (H.o 9)) (Nat.le_trans (Nat.add_le_add k5 k6) (by decide))) ?_
 refine RunD.en ?_
 refine Run.cO 8 softRat (fun _ _ _ H=>qMul ((y3*z0)-(y0*z3)) x1 (RatP.blk (q:=(y3*z0)-(y0*z3)) (H.o 8)) (anyV (H.o 8)) (anyV (H.f 1)) (Nat.le_trans (Nat.add_le_add k7 ex1) (by decide))) ?_
 refine Run.cO 5 softRat (fun _ _ _ H=>qAdd ((0:Rat)+(((y1*z3)-(y3*z1))*x0)) (((y3*z0)-(y0*z3))*x1) (RatP.blk (q:=(0:Rat)+(((y1*z3)-(y3*z1))*x0)) (H.o 5)) (anyV (H.o 5)) (anyV (H.o 8)) (Nat.le_trans (Nat.add_le_add k4 k8) (by decide))) ?_
 refine Run.dr ?_
 refine RunD.en ?_
 refine Run.dr ?_
 refine RunD.cO 10 softRat (fun _ _ _ H=>qMul y0 z1 (RatP.blk (H.oz 10)) (anyV (H.f 4)) (anyV (H.f 9)) (Nat.le_trans (Nat.add_le_add ey0 ez1) (by decide))) ?_
 refine RunD.en ?_
 refine Run.dr ?_
 refine RunD.cO 11 softRat (fun _ _ _ H=>qMul y1 z0 (RatP.blk (H.oz 11)) (anyV (H.f 5)) (anyV (H.f 8)) (Nat.le_trans (Nat.add_le_add ey1 ez0) (by decide))) ?_
 refine RunD.cO 10 softRat (fun _ _ _ H=>qSub (y0*z1) (y1*z0) (RatP.blk (q:=y0*z1) (H.o 10)) (anyV (H.o 10)) (anyV (H.o 11)) (Nat.le_trans (Nat.add_le_add k10 k11) (by decide))) ?_
 refine RunD.en ?_
 refine Run.cO 10 softRat (fun _ _ _ H=>qMul ((y0*z1)-(y1*z0)) x3 (RatP.blk (q:=(y0*z1)-(y1*z0)) (H.o 10)) (anyV (H.o 10)) (anyV (H.f 3)) (Nat.le_trans (Nat.add_le_add k12 ex3) (by decide))) ?_
 refine Run.cO 5 softRat (fun _ _ _ H=>qAdd (((0:Rat)+(((y1*z3)-(y3*z1))*x0))+(((y3*z0)-(y0*z3))*x1)) (((y0*z1)-(y1*z0))*x3) (RatP.blk (q:=((0:Rat)+(((y1*z3)-(y3*z1))*x0))+(((y3*z0)-(y0*z3))*x1)) (H.o 5)) (anyV (H.o 5)) (anyV (H.o 10)) (Nat.le_trans (Nat.add_le_add k9 k13) (by decide))) ?_
 exact Run.rN (φ:=RatP (mn3 x0 x1 x3 y0 y1 y3 z0 z1 z3)) 5 (fun _ _ _ H=>⟨H.ow 5,VPe (φ:=RatP) (rfl) (H.o 5)⟩)
theorem acm3 {w1_0 w1_1 w1_2 w1_3 w1_4 w1_5 w1_6 w1_7 w1_8 w1_9 w1_10 w1_11:Value} {b1:Nat} (x0:Rat) (x1:Rat) (x2:Rat) (x3:Rat) (y0:Rat) (y1:Rat) (y2:Rat) (y3:Rat) (z0:Rat) (z1:Rat) (z2:Rat) (z3:Rat) (B1:W.heap[b1]? = some (.cells #[w1_0,w1_1,w1_2,w1_3,w1_4,w1_5,w1_6,w1_7,w1_8,w1_9,w1_10,w1_11] 299 (0,0))) (hw1_0:(RatP x0).p S w1_0 W) (hw1_1:(RatP x1).p S w1_1 W) (hw1_2:(RatP x2).p S w1_2 W) (hw1_3:(RatP x3).p S w1_3 W) (hw1_4:(RatP y0).p S w1_4 W) (hw1_5:(RatP y1).p S w1_5 W) (hw1_6:(RatP y2).p S w1_6 W) (hw1_7:(RatP y3).p S w1_7 W) (hw1_8:(RatP z0).p S w1_8 W) (hw1_9:(RatP z1).p S w1_9 W) (hw1_10:(RatP z2).p S w1_10 W) (hw1_11:(RatP z3).p S w1_11 W) (p0:ht x0+ht x1+ht x2+ht x3≤40000) (p1:ht y0+ht y1+ht y2+ht y3≤40000) (p2:ht z0+ht z1+ht z2+ht z3≤40000):Calls Tryz.prog 228 #[.int .i64 3,.pointer (some ⟨b1,0,none⟩)] W (Ret (RatP (-(mn3 x0 x1 x2 y0 y1 y2 z0 z1 z2))) Z0 W):=by
 obtain ⟨ex0,ex1,ex2,ex3,ey0,ey1,ey2,ey3,ez0,ez1,ez2,ez3⟩:ht x0≤40000∧ht x1≤40000∧ht x2≤40000∧ht x3≤40000∧ht y0≤40000∧ht y1≤40000∧ht y2≤40000∧ht y3≤40000∧ht z0≤40000∧ht z1≤40000∧ht z2≤40000∧ht z3≤40000:=by omega
 have k0:=hb_mul ey1 ez2 80000
 have k1:=hb_mul ey2 ez1 80000
 have k2:=hb_sub k0 k1 160000
 have k3:=hb_mul k2 ex0 200000
 have k4:=hb_add (Nat.le_of_eq ht_zero) k3 200002
 have k5:=hb_mul ey2 ez0 80000
 have k6:=hb_mul ey0 ez2 80000
 have k7:=hb_sub k5 k6 160000
 have k8:=hb_mul k7 ex1 200000
 have k9:=hb_add k4 k8 400002
 have k10:=hb_mul ey0 ez1 80000
 have k11:=hb_mul ey1 ez0 80000
 have k12:=hb_sub k10 k11 160000
 have k13:=hb_mul k12 ex2 200000
 have k14:=hb_add k9 k13 600002
 have k15:=hb_neg k14
 refine Run.goP (S:=S) ((Pack.nil.k (.int .i64 3) [] (.s (.o (.c (.int .i64 3))))).bv B1 none 12 (AllF.rat hw1_0 (AllF.rat hw1_1 (AllF.rat hw1_2 (AllF.rat hw1_3 (AllF.rat hw1_4 (AllF.rat hw1_5 (AllF.rat hw1_6 (AllF.rat hw1_7 (AllF.rat hw1_8 (AllF.rat hw1_9 (AllF.rat hw1_10 (AllF.rat hw1_11 AllF.z))))))))))))) Tryz.func228 rfl ?_
 refine Run.a0 3 75 1 (fun cp1=>?_)
 refine Run.ap 75 2 1 cp1 3 (fun cp2=>?_)
 refine Run.ap 75 2 2 cp2 4 (fun cp3=>?_)
 refine Run.dr ?_
 refine RunD.en ?_
 refine Run.dr ?_
 refine RunD.cO 6 softRat (fun _ _ _ H=>qMul y1 z2 (RatP.blk (H.oz 6)) (anyV (H.f 5)) (anyV (H.f 10)) (Nat.le_trans (Nat.add_le_add ey1 ez2) (by decide))) ?_
 refine RunD.en ?_
 refine Run.dr ?_
 refine RunD.cO 7 softRat (fun _ _ _ H=>qMul y2 z1 (RatP.blk (H.oz 7)) (anyV (H.f 6)) (anyV (H.f 9)) (Nat.le_trans (Nat.add_le_add ey2 ez1) (by decide))) ?_
 refine RunD.cO 6 softRat (fun _ _ _ H=>qSub (y1*z2) (y2*z1) (RatP.blk (q:=y1*z2) (H.o 6)) (anyV (H.o 6)) (anyV (H.o 7)) (Nat.le_trans (Nat.add_le_add k0 k1) (by decide))) ?_
 refine RunD.en ?_
 refine Run.cO 6 softRat (fun _ _ _ H=>qMul ((y1*z2)-(y2*z1)) x0 (RatP.blk (q:=(y1*z2)-(y2*z1)) (H.o 6)) (anyV (H.o 6)) (anyV (H.f 0)) (Nat.le_trans (Nat.add_le_add k2 ex0) (by decide))) ?_
 refine Run.cO 5 softRat (fun _ _ _ H=>qAdd (0:Rat) (((y1*z2)-(y2*z1))*x0) (RatP.blk (H.oz 5)) (anyV (H.oz 5)) (anyV (H.o 6)) (Nat.le_trans (Nat.add_le_add (Nat.le_of_eq ht_zero) k3) (by decide))) ?_
 refine Run.dr ?_
 refine RunD.en ?_
 refine Run.dr ?_
 refine RunD.cO 8 softRat (fun _ _ _ H=>qMul y2 z0 (RatP.blk (H.oz 8)) (anyV (H.f 6)) (anyV (H.f 8)) (Nat.le_trans (Nat.add_le_add ey2 ez0) (by decide))) ?_
 refine RunD.en ?_
 refine Run.dr ?_
 refine RunD.cO 9 softRat (fun _ _ _ H=>qMul y0 z2 (RatP.blk (H.oz 9)) (anyV (H.f 4)) (anyV (H.f 10)) (Nat.le_trans (Nat.add_le_add ey0 ez2) (by decide))) ?_
 refine RunD.cO 8 softRat (fun _ _ _ H=>qSub (y2*z0) (y0*z2) (RatP.blk (q:=y2*z0) (H.o 8)) (anyV (H.o 8)) (anyV (H.o 9)) (Nat.le_trans (Nat.add_le_add k5 k6) (by decide))) ?_
 refine RunD.en ?_
 refine Run.cO 8 softRat (fun _ _ _ H=>qMul ((y2*z0)-(y0*z2)) x1 (RatP.blk (q:=(y2*z0)-(y0*z2)) (H.o 8)) (anyV (H.o 8)) (anyV (H.f 1)) (Nat.le_trans (Nat.add_le_add k7 ex1) (by decide))) ?_
 refine Run.cO 5 softRat (fun _ _ _ H=>qAdd ((0:Rat)+(((y1*z2)-(y2*z1))*x0)) (((y2*z0)-(y0*z2))*x1) (RatP.blk (q:=(0:Rat)+(((y1*z2)-(y2*z1))*x0)) (H.o 5)) (anyV (H.o 5)) (anyV (H.o 8)) (Nat.le_trans (Nat.add_le_add k4 k8) (by decide))) ?_
 refine Run.dr ?_
 refine RunD.en ?_
 refine Run.dr ?_
 refine RunD.cO 10 softRat (fun _ _ _ H=>qMul y0 z1 (RatP.blk (H.oz 10)) (anyV (H.f 4)) (anyV (H.f 9)) (Nat.le_trans (Nat.add_le_add ey0 ez1) (by decide))) ?_
 refine RunD.en ?_
 refine Run.dr ?_
 refine RunD.cO 11 softRat (fun _ _ _ H=>qMul y1 z0 (RatP.blk (H.oz 11)) (anyV (H.f 5)) (anyV (H.f 8)) (Nat.le_trans (Nat.add_le_add ey1 ez0) (by decide))) ?_
 refine RunD.cO 10 softRat (fun _ _ _ H=>qSub (y0*z1) (y1*z0) (RatP.blk (q:=y0*z1) (H.o 10)) (anyV (H.o 10)) (anyV (H.o 11)) (Nat.le_trans (Nat.add_le_add k10 k11) (by decide))) ?_
 refine RunD.en ?_
 refine Run.cO 10 softRat (fun _ _ _ H=>qMul ((y0*z1)-(y1*z0)) x2 (RatP.blk (q:=(y0*z1)-(y1*z0)) (H.o 10)) (anyV (H.o 10)) (anyV (H.f 2)) (Nat.le_trans (Nat.add_le_add k12 ex2) (by decide))) ?_
 refine Run.cO 5 softRat (fun _ _ _ H=>qAdd (((0:Rat)+(((y1*z2)-(y2*z1))*x0))+(((y2*z0)-(y0*z2))*x1)) (((y0*z1)-(y1*z0))*x2) (RatP.blk (q:=((0:Rat)+(((y1*z2)-(y2*z1))*x0))+(((y2*z0)-(y0*z2))*x1)) (H.o 5)) (anyV (H.o 5)) (anyV (H.o 10)) (Nat.le_trans (Nat.add_le_add k9 k13) (by decide))) ?_
 refine Run.cO 5 softRat (fun _ _ _ H=>qNeg ((((0:Rat)+(((y1*z2)-(y2*z1))*x0))+(((y2*z0)-(y0*z2))*x1))+(((y0*z1)-(y1*z0))*x2)) (RatP.blk (q:=(((0:Rat)+(((y1*z2)-(y2*z1))*x0))+(((y2*z0)-(y0*z2))*x1))+(((y0*z1)-(y1*z0))*x2)) (H.o 5)) (anyV (H.o 5)) (Nat.le_trans k14 (by decide))) ?_
 exact Run.rN (φ:=RatP (-(mn3 x0 x1 x2 y0 y1 y2 z0 z1 z2))) 5 (fun _ _ _ H=>⟨H.ow 5,VPe (φ:=RatP) (rfl) (H.o 5)⟩)
theorem acr {w0_0 w0_1 w0_2 w0_3 w0_4 w0_5 w0_6 w0_7 w0_8 w0_9 w0_10 w0_11:Value} {b0:Nat} (n0:Nat) (d0:Ci) (d1:Ci) (d2:Ci) (B0:∃ r:List Value,W.heap[b0]? = some (.cells ⟨[w0_0,w0_1,w0_2,w0_3,w0_4,w0_5,w0_6,w0_7,w0_8,w0_9,w0_10,w0_11]++r⟩ 180 (0,0))) (t0_0:(RingP d0).p S (.agg #[w0_0,w0_1,w0_2,w0_3]) W) (t0_1:(RingP d1).p S (.agg #[w0_4,w0_5,w0_6,w0_7]) W) (t0_2:(RingP d2).p S (.agg #[w0_8,w0_9,w0_10,w0_11]) W) (p0:ht d0.a+ht d0.b.re+ht d0.b.im+ht d0.c≤40000) (p1:ht d1.a+ht d1.b.re+ht d1.b.im+ht d1.c≤40000) (p2:ht d2.a+ht d2.b.re+ht d2.b.im+ht d2.c≤40000):Calls Tryz.prog 115 #[.slice (some ⟨b0,0,none⟩) 3 (n0+3)] W (Ret (RingP (Ci.acr d0 d1 d2)) S W):=by
 obtain ⟨ead0,ebd0,ecd0⟩:=hb_ci p0
 obtain ⟨ead1,ebd1,ecd1⟩:=hb_ci p1
 obtain ⟨ead2,ebd2,ecd2⟩:=hb_ci p2
 have k0:=mn3_hb ead0 ecd0 ebd0.2 ead1 ecd1 ebd1.2 ead2 ecd2 ebd2.2
 have k1:=hb_neg (mn3_hb ead0 ecd0 ebd0.1 ead1 ecd1 ebd1.1 ead2 ecd2 ebd2.1)
 have k2:=HB.mul (HB.two (z:=Cx.mk (- (mn3 d0.a d0.c d0.b.re d1.a d1.c d1.b.re d2.a d2.c d2.b.re)) 0) k1 (Nat.le_of_eq ht_zero) 600002) (⟨by decide,by decide⟩:HB (Cx.ofInt 0 1) 3) 1200010
 have k3:=HB.add (HB.two (z:=Cx.mk (mn3 d0.a d0.c d0.b.im d1.a d1.c d1.b.im d2.a d2.c d2.b.im) 0) k0 (Nat.le_of_eq ht_zero) 600002) k2 1800012
 have k4:=hb_neg (mn3_hb ead0 ebd0.1 ebd0.2 ead1 ebd1.1 ebd1.2 ead2 ebd2.1 ebd2.2)
 have k5:=HB.scale k3 (by decide:ht (Rat.divInt (-1) (2))≤4) 1800016
 have k6:=mn3_hb ecd0 ebd0.1 ebd0.2 ecd1 ebd1.1 ebd1.2 ecd2 ebd2.1 ebd2.2
 refine Run.goP (S:=S) (Pack.nil.bm B0 3 (n0+3) 12 (AllF.app (ringCells t0_0) (AllF.app (ringCells t0_1) (ringCells t0_2)))) Tryz.func115 rfl ?_
 refine Run.cR sp2Rat (fun _ _ _ H=>eParts d0.b (NumP.mk (H.f 1) (H.f 2))) ?_
 refine Run.cR sp2Rat (fun _ _ _ H=>eParts d1.b (NumP.mk (H.f 5) (H.f 6))) ?_
 refine Run.cR sp2Rat (fun _ _ _ H=>eParts d2.b (NumP.mk (H.f 9) (H.f 10))) ?_
 refine Run.cR spRat (fun _ _ _ H=>qNewRat (-1) 2 (by decide) (by decide) (by decide) (by decide) (by decide)) ?_
 refine Run.cR spRat (fun _ _ _ H=>retZ (acm2 d0.a d0.c d0.b.re d0.b.im d1.a d1.c d1.b.re d1.b.im d2.a d2.c d2.b.re d2.b.im (H.b 2) (H.f 0) (H.f 3) (H.f 12) (H.f 13) (H.f 4) (H.f 7) (H.f 14) (H.f 15) (H.f 8) (H.f 11) (H.f 16) (H.f 17) (by omega) (by omega) (by omega))) ?_
 refine Run.cR spRat (fun _ _ _ H=>retZ (acm3 d0.a d0.c d0.b.re d0.b.im d1.a d1.c d1.b.re d1.b.im d2.a d2.c d2.b.re d2.b.im (H.b 2) (H.f 0) (H.f 3) (H.f 12) (H.f 13) (H.f 4) (H.f 7) (H.f 14) (H.f 15) (H.f 8) (H.f 11) (H.f 16) (H.f 17) (by omega) (by omega) (by omega))) ?_
 refine Run.cR spNum (fun _ _ _ H=>eReal (mn3 d0.a d0.c d0.b.im d1.a d1.c d1.b.im d2.a d2.c d2.b.im) (H.f 19)) ?_
 refine Run.cR spNum (fun _ _ _ H=>eReal (-(mn3 d0.a d0.c d0.b.re d1.a d1.c d1.b.re d2.a d2.c d2.b.re)) (H.f 20)) ?_
 refine Run.cR spNum (fun _ _ _ H=>eInt 0 1 (by decide) (by decide) (by decide) (by decide)) ?_
 refine Run.cR spNum (fun _ _ _ H=>eNMul (Cx.mk (-(mn3 d0.a d0.c d0.b.re d1.a d1.c d1.b.re d2.a d2.c d2.b.re)) 0) (Cx.ofInt 0 1) (NumP.mk (H.f 23) (H.f 24)) (NumP.mk (H.f 25) (H.f 26)) (Nat.le_trans (Nat.add_le_add (Nat.add_le_add (Nat.add_le_add k1 (Nat.le_of_eq ht_zero)) (⟨by decide,by decide⟩:HB (Cx.ofInt 0 1) 3).1) (⟨by decide,by decide⟩:HB (Cx.ofInt 0 1) 3).2) (by decide))) ?_
 refine Run.cR spNum (fun _ _ _ H=>eAdd (Cx.mk (mn3 d0.a d0.c d0.b.im d1.a d1.c d1.b.im d2.a d2.c d2.b.im) 0) ((Cx.mk (-(mn3 d0.a d0.c d0.b.re d1.a d1.c d1.b.re d2.a d2.c d2.b.re)) 0).mul (Cx.ofInt 0 1)) (NumP.mk (H.f 21) (H.f 22)) (NumP.mk (H.f 27) (H.f 28)) (Nat.le_trans (Nat.add_le_add (Nat.add_le_add (Nat.add_le_add k0 (Nat.le_of_eq ht_zero)) k2.1) k2.2) (by decide))) ?_
 refine Run.dr ?_
 refine RunD.cR spRat (fun _ _ _ H=>retZ (acm1 d0.a d0.c d0.b.re d0.b.im d1.a d1.c d1.b.re d1.b.im d2.a d2.c d2.b.re d2.b.im (H.b 2) (H.f 0) (H.f 3) (H.f 12) (H.f 13) (H.f 4) (H.f 7) (H.f 14) (H.f 15) (H.f 8) (H.f 11) (H.f 16) (H.f 17) (by omega) (by omega) (by omega))) ?_
 refine RunD.cR spNum (fun _ _ _ H=>eScale ((Cx.mk (mn3 d0.a d0.c d0.b.im d1.a d1.c d1.b.im d2.a d2.c d2.b.im) 0).add ((Cx.mk (-(mn3 d0.a d0.c d0.b.re d1.a d1.c d1.b.re d2.a d2.c d2.b.re)) 0).mul (Cx.ofInt 0 1))) (Rat.divInt (-1) 2) (NumP.mk (H.f 29) (H.f 30)) (RatP.n (H.f 18)) (Nat.le_trans (Nat.add_le_add (Nat.add_le_add k3.1 k3.2) (by decide:ht (Rat.divInt (-1) (2))≤4)) (by decide))) ?_
 refine RunD.cR spRat (fun _ _ _ H=>retZ (acm0 d0.a d0.c d0.b.re d0.b.im d1.a d1.c d1.b.re d1.b.im d2.a d2.c d2.b.re d2.b.im (H.b 2) (H.f 0) (H.f 3) (H.f 12) (H.f 13) (H.f 4) (H.f 7) (H.f 14) (H.f 15) (H.f 8) (H.f 11) (H.f 16) (H.f 17) (by omega) (by omega) (by omega))) ?_
 refine RunD.en ?_
 exact Run.rR (fun _ _ _ H=>VPe (φ:=RingP) (rfl) (RingP.mk (H.f 31) (H.f 32) (H.f 33) (H.f 34)))
theorem ahd {v0 v1:Value} (a:Ci) (b:Ci) (t0:(RingP a).p S v0 W) (t1:(RingP b).p S v1 W) (p0:ht a.a+ht a.b.re+ht a.b.im+ht a.c+(ht b.a+ht b.b.re+ht b.b.im+ht b.c)≤67108000):Calls Tryz.prog 117 #[v0,v1] W (RetV (.bool (a.ahd b)) W):=by
 have k0:=hc_sub a.b b.b
 refine Run.goP (S:=S) ((Pack.nil.s spRing t0).s spRing t1) Tryz.func117 rfl ?_
 refine Run.cR spNum (fun _ _ _ H=>eSub a.b b.b (NumP.mk (H.f 1) (H.f 2)) (NumP.mk (H.f 5) (H.f 6)) (by omega)) ?_
 refine Run.cR sp2Rat (fun _ _ _ H=>eParts (a.b.sub b.b) (NumP.mk (H.f 8) (H.f 9))) ?_
 refine Run.dr ?_
 refine RunD.cV [.int .i64 (icmp (a.a.num*(b.a.den:Int)) (b.a.num*(a.a.den:Int)))] kb (fun _ _ _ H=>qCmp a.a b.a (H.f 0) (H.f 4) (by omega)) ?_
 refine RunD.un (icmp (a.a.num*(b.a.den:Int)) (b.a.num*(a.a.den:Int))) (wneg _ _) ?_
 refine RunD.cV [.int .i64 (((a.b.sub b.b).re).num.sign)] kb (fun _ _ _ H=>qSign ((a.b.sub b.b).re) (H.f 10)) ?_
 refine RunD.cV [.int .i64 (((a.b.sub b.b).im).num.sign)] kb (fun _ _ _ H=>qSign ((a.b.sub b.b).im) (H.f 11)) ?_
 refine RunD.cV [.int .i64 (icmp (a.c.num*(b.c.den:Int)) (b.c.num*(a.c.den:Int)))] kb (fun _ _ _ H=>qCmp a.c b.c (H.f 3) (H.f 7) (by omega)) ?_
 refine RunD.en ?_
 refine Run.ic (-(icmp (a.a.num*(b.a.den:Int)) (b.a.num*(a.a.den:Int)))) 0 ((-(icmp (a.a.num*(b.a.den:Int)) (b.a.num*(a.a.den:Int)))) != 0) ?_
 refine (Bool.eq_false_or_eq_true ((-(icmp (a.a.num*(b.a.den:Int)) (b.a.num*(a.a.den:Int)))) != 0)).elim (fun c1=>?_) (fun c1=>?_)
 · refine Run.kn c1 ?_
   refine Run.ic (-(icmp (a.a.num*(b.a.den:Int)) (b.a.num*(a.a.den:Int)))) 0 (decide ((-(icmp (a.a.num*(b.a.den:Int)) (b.a.num*(a.a.den:Int))))<0)) ?_
   exact Run.rV (V' := .bool (decide ((-(icmp (a.a.num*(b.a.den:Int)) (b.a.num*(a.a.den:Int))))<0))) ((congrArg Value.bool (by simp [Ci.ahd,fstN,c1])))
 · refine Run.kn c1 ?_
   refine Run.ic (((a.b.sub b.b).re).num.sign) 0 ((((a.b.sub b.b).re).num.sign) != 0) ?_
   refine (Bool.eq_false_or_eq_true ((((a.b.sub b.b).re).num.sign) != 0)).elim (fun c2=>?_) (fun c2=>?_)
   · refine Run.kn c2 ?_
     refine Run.ic (((a.b.sub b.b).re).num.sign) 0 (decide ((((a.b.sub b.b).re).num.sign)<0)) ?_
     exact Run.rV (V' := .bool (decide ((((a.b.sub b.b).re).num.sign)<0))) ((congrArg Value.bool (by simp [Ci.ahd,fstN,c1,c2])))
   · refine Run.kn c2 ?_
     refine Run.ic (((a.b.sub b.b).im).num.sign) 0 ((((a.b.sub b.b).im).num.sign) != 0) ?_
     refine (Bool.eq_false_or_eq_true ((((a.b.sub b.b).im).num.sign) != 0)).elim (fun c3=>?_) (fun c3=>?_)
     · refine Run.kn c3 ?_
       refine Run.ic (((a.b.sub b.b).im).num.sign) 0 (decide ((((a.b.sub b.b).im).num.sign)<0)) ?_
       exact Run.rV (V' := .bool (decide ((((a.b.sub b.b).im).num.sign)<0))) ((congrArg Value.bool (by simp [Ci.ahd,fstN,c1,c2,c3])))
     · refine Run.kn c3 ?_
       refine Run.ic (icmp (a.c.num*(b.c.den:Int)) (b.c.num*(a.c.den:Int))) 0 ((icmp (a.c.num*(b.c.den:Int)) (b.c.num*(a.c.den:Int))) != 0) ?_
       refine (Bool.eq_false_or_eq_true ((icmp (a.c.num*(b.c.den:Int)) (b.c.num*(a.c.den:Int))) != 0)).elim (fun c4=>?_) (fun c4=>?_)
       · refine Run.kn c4 ?_
         refine Run.ic (icmp (a.c.num*(b.c.den:Int)) (b.c.num*(a.c.den:Int))) 0 (decide ((icmp (a.c.num*(b.c.den:Int)) (b.c.num*(a.c.den:Int)))<0)) ?_
         exact Run.rV (V' := .bool (decide ((icmp (a.c.num*(b.c.den:Int)) (b.c.num*(a.c.den:Int)))<0))) ((congrArg Value.bool (by simp [Ci.ahd,fstN,c1,c2,c3,c4])))
       · refine Run.kn c4 ?_
         exact Run.rV (V' := .bool false) ((congrArg Value.bool (by simp [Ci.ahd,fstN,c1,c2,c3,c4])))
theorem fo0 (a:RCi) (b:RCi) (c:RCi) (p0:dsOk a=false):Calls Tryz.prog 17 #[rciV a,rciV b,rciV c] W (RetV (.tuple #[rciV rzCi,rciV rzCi,.int .i64 2]) W):=by
 refine Run.goP (S:=Z0) (((Pack.nil.k (rciV a) (rciC a).toList (.s (.agg (ks 0 16)))).k (rciV b) (rciC b).toList (.s (.agg (ks 0 16)))).k (rciV c) (rciC c).toList (.s (.agg (ks 0 16)))) Tryz.func17 rfl ?_
 refine Run.cV [] (.tup [.o (.c (.slice none 0 0)),.o (.c (.bool false))]) (fun _ _ _ H=>pl30 29 a b c (H.b 5) p0) ?_
 exact Run.rV rfl
theorem fo1 (a:Ci) (b:RCi) (c:RCi) (p0:dsOk (rci a)=true) (p1:dsOk b=false):Calls Tryz.prog 17 #[ciV a,rciV b,rciV c] W (RetV (.tuple #[rciV rzCi,rciV rzCi,.int .i64 2]) W):=by
 refine Run.goP (S:=Z0) (((Pack.nil.k (ciV a) (ciC a).toList (.s (.agg (ks 0 16)))).k (rciV b) (rciC b).toList (.s (.agg (ks 0 16)))).k (rciV c) (rciC c).toList (.s (.agg (ks 0 16)))) Tryz.func17 rfl ?_
 refine Run.cV [] (.tup [.o (.c (.slice none 0 0)),.o (.c (.bool false))]) (fun _ _ _ H=>pl31 29 a b c (H.b 5) p0 p1) ?_
 exact Run.rV rfl
theorem fo2 (a:Ci) (b:Ci) (c:RCi) (p0:dsOk (rci a)=true) (p1:dsOk (rci b)=true) (p2:dsOk c=false):Calls Tryz.prog 17 #[ciV a,ciV b,rciV c] W (RetV (.tuple #[rciV rzCi,rciV rzCi,.int .i64 2]) W):=by
 refine Run.goP (S:=Z0) (((Pack.nil.k (ciV a) (ciC a).toList (.s (.agg (ks 0 16)))).k (ciV b) (ciC b).toList (.s (.agg (ks 0 16)))).k (rciV c) (rciC c).toList (.s (.agg (ks 0 16)))) Tryz.func17 rfl ?_
 refine Run.cV [] (.tup [.o (.c (.slice none 0 0)),.o (.c (.bool false))]) (fun _ _ _ H=>pl32 29 a b c (H.b 5) p0 p1 p2) ?_
 exact Run.rV rfl
theorem fo3 (a:Ci) (b:Ci) (c:Ci) (p0:dsOk (rci a)=true) (p1:dsOk (rci b)=true) (p2:dsOk (rci c)=true) (p3:Ci.all3 a b c=false):Calls Tryz.prog 17 #[ciV a,ciV b,ciV c] W (RetV (.tuple #[rciV rzCi,rciV rzCi,.int .i64 300]) W):=by
 have f0:=cifits_ht (dsOk_c p0).1
 have f1:=cifits_ht (dsOk_c p1).1
 have f2:=cifits_ht (dsOk_c p2).1
 refine Run.goP (S:=Z0) (((Pack.nil.k (ciV a) (ciC a).toList (.s (.agg (ks 0 16)))).k (ciV b) (ciC b).toList (.s (.agg (ks 0 16)))).k (ciV c) (ciC c).toList (.s (.agg (ks 0 16)))) Tryz.func17 rfl ?_
 refine Run.cB (n:=3) (T:=180) (φs:=ringF [a,b,c]) (fun _ _ _ H=>pl3Y 29 a b c (H.b 5) p0 p1 p2) (fun cp1=>?_)
 refine Run.cV [.bool ([b.touch a].all id&&[c.touch a,c.touch b].all id)] kb (fun _ _ _ H=>tch3 cp1 a b c (H.br 6) (RingP.mk (H.f 0) (H.f 1) (H.f 2) (H.f 3)) (RingP.mk (H.f 4) (H.f 5) (H.f 6) (H.f 7)) (RingP.mk (H.f 8) (H.f 9) (H.f 10) (H.f 11)) (by omega) (by omega) (by omega)) ?_
 refine Run.kn p3 ?_
 exact Run.rV rfl
theorem fo4 (a:Ci) (b:Ci) (c:Ci) (p0:dsOk (rci a)=true) (p1:dsOk (rci b)=true) (p2:dsOk (rci c)=true) (p3:Ci.all3 a b c=true):Calls Tryz.prog 17 #[ciV a,ciV b,ciV c] W (RetV (.tuple #[rciV (Ci.f4P a b c),rciV (Ci.f4Q a b c),.int .i64 (Ci.f4E a b c)]) W):=by
 have f0:=cifits_ht (dsOk_c p0).1
 have f1:=cifits_ht (dsOk_c p1).1
 have f2:=cifits_ht (dsOk_c p2).1
 obtain ⟨g1,g2,g3⟩:=f4_ht f0 f1 f2
 have g4:=acr_ht f0 f1 f2
 have g5:=plus_ht a b
 have g6:=out_hs (Ci.acr a b c)
 unfold Ci.f4s at g1
 unfold Ci.f4x Ci.f4s at g2
 unfold Ci.f4y Ci.f4s at g3
 refine Run.goP (S:=Z0) (((Pack.nil.k (ciV a) (ciC a).toList (.s (.agg (ks 0 16)))).k (ciV b) (ciC b).toList (.s (.agg (ks 0 16)))).k (ciV c) (ciC c).toList (.s (.agg (ks 0 16)))) Tryz.func17 rfl ?_
 refine Run.cB (n:=3) (T:=180) (φs:=ringF [a,b,c]) (fun _ _ _ H=>pl3Y 29 a b c (H.b 5) p0 p1 p2) (fun cp1=>?_)
 refine Run.cV [.bool ([b.touch a].all id&&[c.touch a,c.touch b].all id)] kb (fun _ _ _ H=>tch3 cp1 a b c (H.br 6) (RingP.mk (H.f 0) (H.f 1) (H.f 2) (H.f 3)) (RingP.mk (H.f 4) (H.f 5) (H.f 6) (H.f 7)) (RingP.mk (H.f 8) (H.f 9) (H.f 10) (H.f 11)) (by omega) (by omega) (by omega)) ?_
 refine Run.kn p3 ?_
 refine Run.dr ?_
 refine RunD.cR spRing (fun _ _ _ H=>dsPlus a b (RingP.mk (H.f 0) (H.f 1) (H.f 2) (H.f 3)) (RingP.mk (H.f 4) (H.f 5) (H.f 6) (H.f 7)) (by omega)) ?_
 refine RunD.cR spRing (fun _ _ _ H=>dsPlus (a.plus b) c (RingP.mk (H.f 12) (H.f 13) (H.f 14) (H.f 15)) (RingP.mk (H.f 8) (H.f 9) (H.f 10) (H.f 11)) (by omega)) ?_
 refine RunD.cR spRing (fun _ _ _ H=>acr cp1 a b c (H.br 6) (RingP.mk (H.f 0) (H.f 1) (H.f 2) (H.f 3)) (RingP.mk (H.f 4) (H.f 5) (H.f 6) (H.f 7)) (RingP.mk (H.f 8) (H.f 9) (H.f 10) (H.f 11)) (by omega) (by omega) (by omega)) ?_
 refine RunD.en ?_
 refine Run.dr ?_
 refine RunD.cR spRing (fun _ _ _ H=>dsPlus ((a.plus b).plus c) (Ci.acr a b c) (RingP.mk (H.f 16) (H.f 17) (H.f 18) (H.f 19)) (RingP.mk (H.f 20) (H.f 21) (H.f 22) (H.f 23)) (by omega)) ?_
 refine RunD.cR spRing (fun _ _ _ H=>dsOut (Ci.acr a b c) (RingP.mk (H.f 20) (H.f 21) (H.f 22) (H.f 23)) (by omega)) ?_
 refine RunD.cR spRing (fun _ _ _ H=>dsPlus ((a.plus b).plus c) ((Ci.acr a b c).out) (RingP.mk (H.f 16) (H.f 17) (H.f 18) (H.f 19)) (RingP.mk (H.f 28) (H.f 29) (H.f 30) (H.f 31)) (by omega)) ?_
 refine RunD.en ?_
 refine Run.cV [.bool ((((a.plus b).plus c).plus ((Ci.acr a b c).out)).ahd (((a.plus b).plus c).plus (Ci.acr a b c)))] kb (fun _ _ _ H=>ahd (((a.plus b).plus c).plus ((Ci.acr a b c).out)) (((a.plus b).plus c).plus (Ci.acr a b c)) (RingP.mk (H.f 32) (H.f 33) (H.f 34) (H.f 35)) (RingP.mk (H.f 24) (H.f 25) (H.f 26) (H.f 27)) (by omega)) ?_
 refine (Bool.eq_false_or_eq_true ((((a.plus b).plus c).plus ((Ci.acr a b c).out)).ahd (((a.plus b).plus c).plus (Ci.acr a b c)))).elim (fun c1=>?_) (fun c1=>?_)
 · refine Run.kn c1 ?_
   refine Run.cV ((rciC (cicut (((a.plus b).plus c).plus ((Ci.acr a b c).out)))).toList++[.int .i64 (cierr (((a.plus b).plus c).plus ((Ci.acr a b c).out)))]) (.tup [.agg (ks 0 16),.o (.k 16)]) (fun _ _ _ H=>dsTold (((a.plus b).plus c).plus ((Ci.acr a b c).out)) (RingP.mk (H.f 32) (H.f 33) (H.f 34) (H.f 35)) (by omega)) ?_
   refine Run.cV ((rciC (cicut (((a.plus b).plus c).plus (Ci.acr a b c)))).toList++[.int .i64 (cierr (((a.plus b).plus c).plus (Ci.acr a b c)))]) (.tup [.agg (ks 0 16),.o (.k 16)]) (fun _ _ _ H=>dsTold (((a.plus b).plus c).plus (Ci.acr a b c)) (RingP.mk (H.f 24) (H.f 25) (H.f 26) (H.f 27)) (by omega)) ?_
   refine Run.ic (cierr (((a.plus b).plus c).plus ((Ci.acr a b c).out))) 0 ((cierr (((a.plus b).plus c).plus ((Ci.acr a b c).out))) != 0) ?_
   refine (Bool.eq_false_or_eq_true ((cierr (((a.plus b).plus c).plus ((Ci.acr a b c).out))) != 0)).elim (fun c2=>?_) (fun c2=>?_)
   · refine Run.kn c2 ?_
     exact Run.rV (fo_1 c1 c2)
   · refine Run.kn c2 ?_
     refine Run.ic (cierr (((a.plus b).plus c).plus (Ci.acr a b c))) 0 ((cierr (((a.plus b).plus c).plus (Ci.acr a b c))) != 0) ?_
     refine (Bool.eq_false_or_eq_true ((cierr (((a.plus b).plus c).plus (Ci.acr a b c))) != 0)).elim (fun c3=>?_) (fun c3=>?_)
     · refine Run.kn c3 ?_
       exact Run.rV (fo_2 c1 c3)
     · refine Run.kn c3 ?_
       refine Run.dr ?_
       refine RunD.en ?_
       exact Run.rV (fo_3 c1 c2 c3)
 · refine Run.kn c1 ?_
   refine Run.cV ((rciC (cicut (((a.plus b).plus c).plus (Ci.acr a b c)))).toList++[.int .i64 (cierr (((a.plus b).plus c).plus (Ci.acr a b c)))]) (.tup [.agg (ks 0 16),.o (.k 16)]) (fun _ _ _ H=>dsTold (((a.plus b).plus c).plus (Ci.acr a b c)) (RingP.mk (H.f 24) (H.f 25) (H.f 26) (H.f 27)) (by omega)) ?_
   refine Run.cV ((rciC (cicut (((a.plus b).plus c).plus ((Ci.acr a b c).out)))).toList++[.int .i64 (cierr (((a.plus b).plus c).plus ((Ci.acr a b c).out)))]) (.tup [.agg (ks 0 16),.o (.k 16)]) (fun _ _ _ H=>dsTold (((a.plus b).plus c).plus ((Ci.acr a b c).out)) (RingP.mk (H.f 32) (H.f 33) (H.f 34) (H.f 35)) (by omega)) ?_
   refine Run.ic (cierr (((a.plus b).plus c).plus (Ci.acr a b c))) 0 ((cierr (((a.plus b).plus c).plus (Ci.acr a b c))) != 0) ?_
   refine (Bool.eq_false_or_eq_true ((cierr (((a.plus b).plus c).plus (Ci.acr a b c))) != 0)).elim (fun c4=>?_) (fun c4=>?_)
   · refine Run.kn c4 ?_
     exact Run.rV (fo_4 c1 c4)
   · refine Run.kn c4 ?_
     refine Run.ic (cierr (((a.plus b).plus c).plus ((Ci.acr a b c).out))) 0 ((cierr (((a.plus b).plus c).plus ((Ci.acr a b c).out))) != 0) ?_
     refine (Bool.eq_false_or_eq_true ((cierr (((a.plus b).plus c).plus ((Ci.acr a b c).out))) != 0)).elim (fun c5=>?_) (fun c5=>?_)
     · refine Run.kn c5 ?_
       exact Run.rV (fo_5 c1 c5)
     · refine Run.kn c5 ?_
       refine Run.dr ?_
       refine RunD.en ?_
       exact Run.rV (fo_6 c1 c4 c5)
theorem swp0 {w0_0 w0_1 w0_2 w0_3 w0_4 w0_5 w0_6 w0_7 w0_8 w0_9 w0_10 w0_11 w0_12 w0_13 w0_14 w0_15:Value} {b0:Nat} (n0:Nat) (d0:Ci) (d1:Ci) (d2:Ci) (d3:Ci) (B0:∃ r:List Value,W.heap[b0]? = some (.cells ⟨[w0_0,w0_1,w0_2,w0_3,w0_4,w0_5,w0_6,w0_7,w0_8,w0_9,w0_10,w0_11,w0_12,w0_13,w0_14,w0_15]++r⟩ 180 (0,0))) (t0_0:(RingP d0).p S (.agg #[w0_0,w0_1,w0_2,w0_3]) W) (t0_1:(RingP d1).p S (.agg #[w0_4,w0_5,w0_6,w0_7]) W) (t0_2:(RingP d2).p S (.agg #[w0_8,w0_9,w0_10,w0_11]) W) (t0_3:(RingP d3).p S (.agg #[w0_12,w0_13,w0_14,w0_15]) W) (p0:ht d0.a+ht d0.b.re+ht d0.b.im+ht d0.c≤1000000) (p1:ht d1.a+ht d1.b.re+ht d1.b.im+ht d1.c≤1000000) (p2:ht d2.a+ht d2.b.re+ht d2.b.im+ht d2.c≤1000000) (p3:ht d3.a+ht d3.b.re+ht d3.b.im+ht d3.c≤1000000):Calls Tryz.prog 174 #[.slice (some ⟨b0,0,none⟩) 4 (n0+4),.int .i64 0] W (Ret (RingP (Ci.swp d0 d1 d2 d3 d0)) S W):=by
 have h1:=plus_ht d0 d1
 have h2:=plus_ht (d0.plus d1) d2
 have h3:=plus_ht ((d0.plus d1).plus d2) d3
 have h4:=out_hs d0
 have h5:=plus_ht (((d0.plus d1).plus d2).plus d3) d0.out
 have h6:=plus_ht ((((d0.plus d1).plus d2).plus d3).plus d0.out) ((((d0.plus d1).plus d2).plus d3).plus d0.out)
 refine Run.goP (S:=S) ((Pack.nil.bm B0 4 (n0+4) 16 (AllF.app (ringCells t0_0) (AllF.app (ringCells t0_1) (AllF.app (ringCells t0_2) (ringCells t0_3))))).k (.int .i64 0) [] (.s (.o (.c (.int .i64 0))))) Tryz.func174 rfl ?_
 refine Run.dr ?_
 refine RunD.cR spRing (fun _ _ _ H=>dsPlus d0 d1 (RingP.mk (H.f 0) (H.f 1) (H.f 2) (H.f 3)) (RingP.mk (H.f 4) (H.f 5) (H.f 6) (H.f 7)) (by omega)) ?_
 refine RunD.cR spRing (fun _ _ _ H=>dsPlus (d0.plus d1) d2 (RingP.mk (H.f 16) (H.f 17) (H.f 18) (H.f 19)) (RingP.mk (H.f 8) (H.f 9) (H.f 10) (H.f 11)) (by omega)) ?_
 refine RunD.cR spRing (fun _ _ _ H=>dsPlus ((d0.plus d1).plus d2) d3 (RingP.mk (H.f 20) (H.f 21) (H.f 22) (H.f 23)) (RingP.mk (H.f 12) (H.f 13) (H.f 14) (H.f 15)) (by omega)) ?_
 refine RunD.cR spRing (fun _ _ _ H=>dsOut d0 (RingP.mk (H.f 0) (H.f 1) (H.f 2) (H.f 3)) (by omega)) ?_
 refine RunD.cR spRing (fun _ _ _ H=>dsPlus (((d0.plus d1).plus d2).plus d3) d0.out (RingP.mk (H.f 24) (H.f 25) (H.f 26) (H.f 27)) (RingP.mk (H.f 28) (H.f 29) (H.f 30) (H.f 31)) (by omega)) ?_
 refine RunD.en ?_
 refine Run.dr ?_
 refine RunD.cR spRing (fun _ _ _ H=>dsPlus ((((d0.plus d1).plus d2).plus d3).plus d0.out) ((((d0.plus d1).plus d2).plus d3).plus d0.out) (RingP.mk (H.f 32) (H.f 33) (H.f 34) (H.f 35)) (RingP.mk (H.f 32) (H.f 33) (H.f 34) (H.f 35)) (by omega)) ?_
 refine RunD.cR spRing (fun _ _ _ H=>dsOut d0 (RingP.mk (H.f 0) (H.f 1) (H.f 2) (H.f 3)) (by omega)) ?_
 refine RunD.cR spRing (fun _ _ _ H=>dsPlus (((((d0.plus d1).plus d2).plus d3).plus d0.out).plus ((((d0.plus d1).plus d2).plus d3).plus d0.out)) d0.out (RingP.mk (H.f 36) (H.f 37) (H.f 38) (H.f 39)) (RingP.mk (H.f 40) (H.f 41) (H.f 42) (H.f 43)) (by omega)) ?_
 refine RunD.en ?_
 exact Run.rR (fun _ _ _ H=>VPe (φ:=RingP) (rfl) (RingP.mk (H.f 44) (H.f 45) (H.f 46) (H.f 47)))
theorem sw1 (i:Int):Calls Tryz.prog 173 #[.int .i64 i] W (RetV (.bool ((decide (i<0))||(decide (3<i)))) W):=by
 refine Run.goP (S:=Z0) (Pack.nil.k (.int .i64 i) [.int .i64 i] kb) Tryz.func173 rfl ?_
 refine Run.ic i 0 (decide (i<0)) ?_
 refine (Bool.eq_false_or_eq_true (decide (i<0))).elim (fun c1=>?_) (fun c1=>?_)
 · refine Run.kn c1 ?_
   exact Run.rV (V' := .bool true) ((congrArg Value.bool (by simp [c1])))
 · refine Run.kn c1 ?_
   refine Run.ic i 3 (decide (3<i)) ?_
   exact Run.rV (V' := .bool (decide (3<i))) ((congrArg Value.bool (by simp [c1])))
theorem ii1 {b0:Nat} (T0:TypeId) (i:Int) (B0:W.heap[b0]? = some (.cells (#[.int .i64 i]) T0 (0,0))):Calls Tryz.prog 248 #[.slice (some ⟨b0,0,none⟩) 1 1,.func (.func 173) #[] #[]] W (RetV (.int .i64 (idxF [!((decide (i<0))||(decide (3<i)))] 0)) W):=by
 refine Run.goP (S:=Z0) ((Pack.nil.b B0 (some 1) 1).k (.func (.func 173) #[] #[]) [] (.s (.o (.fn 173 [])))) Tryz.func248 rfl ?_
 refine Run.cV [.bool ((decide (i<0))||(decide (3<i)))] kb (fun _ _ _ H=>sw1 i) ?_
 refine (Bool.eq_false_or_eq_true ((decide (i<0))||(decide (3<i)))).elim (fun c1=>?_) (fun c1=>?_)
 · refine Run.kn c1 ?_
   exact Run.rV (V' := .int .i64 (0)) ((congrArg (Value.int .i64) (by simp only [idxF,c1];rfl)))
 · refine Run.kn c1 ?_
   exact Run.rV (V' := .int .i64 (-1)) ((congrArg (Value.int .i64) (by simp only [idxF,c1];rfl)))
theorem ci1 {b0:Nat} (T0:TypeId) (i:Int) (B0:W.heap[b0]? = some (.cells (#[.int .i64 i]) T0 (0,0))):Calls Tryz.prog 172 #[.slice (some ⟨b0,0,none⟩) 1 1,.func (.func 173) #[] #[]] W (RetV (.bool ((decide (i<0))||(decide (3<i)))) W):=by
 refine Run.goP (S:=Z0) ((Pack.nil.b B0 (some 1) 1).k (.func (.func 173) #[] #[]) [] (.s (.o (.fn 173 [])))) Tryz.func172 rfl ?_
 refine Run.cV [.int .i64 (idxF [!((decide (i<0))||(decide (3<i)))] 0)] kb (fun _ _ _ H=>ii1 T0 i (H.b 0)) ?_
 refine Run.ic (idxF [!((decide (i<0))||(decide (3<i)))] 0) 0 (decide (0≤(idxF [!((decide (i<0))||(decide (3<i)))] 0))) ?_
 exact Run.rV ((congrArg Value.bool (ci1_eq _)))
theorem frY (d0:Ci) (d1:Ci) (d2:Ci) (d3:Ci) (p0:dsOk (rci d0)=true) (p1:dsOk (rci d1)=true) (p2:dsOk (rci d2)=true) (p3:dsOk (rci d3)=true) (p4:Ci.all4 d0 d1 d2 d3=true):Calls Tryz.prog 171 #[.agg ⟨(ciC d0).toList++(ciC d1).toList++(ciC d2).toList++(ciC d3).toList⟩] W (RetB 180 4 (ringF [d0,d1,d2,d3]) (.int .i64 0) S W):=by
 have f0:=cifits_ht (dsOk_c p0).1
 have f1:=cifits_ht (dsOk_c p1).1
 have f2:=cifits_ht (dsOk_c p2).1
 have f3:=cifits_ht (dsOk_c p3).1
 refine Run.goP (S:=S) (Pack.nil.k (.agg ⟨(ciC d0).toList++(ciC d1).toList++(ciC d2).toList++(ciC d3).toList⟩) ((ciC d0).toList++(ciC d1).toList++(ciC d2).toList++(ciC d3).toList) (.s (.agg (ks 0 64)))) Tryz.func171 rfl ?_
 refine Run.cB (n:=4) (T:=180) (φs:=ringF [d0,d1,d2,d3]) (fun _ _ _ H=>pl4Y 74 d0 d1 d2 d3 (H.b 0) p0 p1 p2 p3) (fun cp1=>?_)
 refine Run.cV [.bool ([d1.touch d0].all id&&[d2.touch d0,d2.touch d1].all id&&[d3.touch d0,d3.touch d1,d3.touch d2].all id)] kb (fun _ _ _ H=>tch4 cp1 d0 d1 d2 d3 (H.br 1) (RingP.mk (H.f 0) (H.f 1) (H.f 2) (H.f 3)) (RingP.mk (H.f 4) (H.f 5) (H.f 6) (H.f 7)) (RingP.mk (H.f 8) (H.f 9) (H.f 10) (H.f 11)) (RingP.mk (H.f 12) (H.f 13) (H.f 14) (H.f 15)) (by omega) (by omega) (by omega) (by omega) (by omega) (by omega)) ?_
 refine Run.kn p4 ?_
 exact Run.rB 1 cp1
theorem sws0Y {b1:Nat} (d0:Ci) (d1:Ci) (d2:Ci) (d3:Ci) (T1:TypeId) (B1:W.heap[b1]? = some (.cells #[.int .i64 0] T1 (0,0))) (p0:dsOk (rci d0)=true) (p1:dsOk (rci d1)=true) (p2:dsOk (rci d2)=true) (p3:dsOk (rci d3)=true) (p4:Ci.all4 d0 d1 d2 d3=true) (p5:((cierr (Ci.swp d0 d1 d2 d3 d0)) != 0)=false):Calls Tryz.prog 44 #[.agg ⟨(ciC d0).toList++(ciC d1).toList++(ciC d2).toList++(ciC d3).toList⟩,.slice (some ⟨b1,0,none⟩) 1 1] W (RetV (.tuple #[.agg ⟨(rciC (cicut (Ci.swp d0 d1 d2 d3 d0))).toList++(ciC d1).toList++(ciC d2).toList++(ciC d3).toList⟩,.int .i64 0]) W):=by
 have f0:=cifits_ht (dsOk_c p0).1
 have f1:=cifits_ht (dsOk_c p1).1
 have f2:=cifits_ht (dsOk_c p2).1
 have f3:=cifits_ht (dsOk_c p3).1
 have g0:=swp_ht d0 d1 d2 d3 d0
 refine Run.goP (S:=Z0) ((Pack.nil.k (.agg ⟨(ciC d0).toList++(ciC d1).toList++(ciC d2).toList++(ciC d3).toList⟩) ((ciC d0).toList++(ciC d1).toList++(ciC d2).toList++(ciC d3).toList) (.s (.agg (ks 0 64)))).bc B1 (some 1)) Tryz.func44 rfl ?_
 refine Run.cB (n:=4) (T:=180) (φs:=ringF [d0,d1,d2,d3]) (fun _ _ _ H=>frY d0 d1 d2 d3 p0 p1 p2 p3 p4) (fun cp1=>?_)
 refine Run.cV [.bool ((decide (0<0))||(decide (3<0)))] kb (fun _ _ _ H=>ci1 T1 0 (H.b 0)) ?_
 refine Run.kn (b:=false) rfl ?_
 refine Run.cR spRing (fun _ _ _ H=>swp0 cp1 d0 d1 d2 d3 (H.br 3) (RingP.mk (H.f 0) (H.f 1) (H.f 2) (H.f 3)) (RingP.mk (H.f 4) (H.f 5) (H.f 6) (H.f 7)) (RingP.mk (H.f 8) (H.f 9) (H.f 10) (H.f 11)) (RingP.mk (H.f 12) (H.f 13) (H.f 14) (H.f 15)) (by omega) (by omega) (by omega) (by omega)) ?_
 refine Run.sm 3 0 ?_
 refine Run.cV ((rciC (cicut (Ci.swp d0 d1 d2 d3 d0))).toList++[.int .i64 (cierr (Ci.swp d0 d1 d2 d3 d0))]) (.tup [.agg (ks 0 16),.o (.k 16)]) (fun _ _ _ H=>dsTold (Ci.swp d0 d1 d2 d3 d0) (RingP.mk (H.f 16) (H.f 17) (H.f 18) (H.f 19)) (by omega)) ?_
 refine Run.ic (cierr (Ci.swp d0 d1 d2 d3 d0)) 0 ((cierr (Ci.swp d0 d1 d2 d3 d0)) != 0) ?_
 refine Run.kn p5 ?_
 exact Run.rV rfl
theorem sw0Y (d0:Ci) (d1:Ci) (d2:Ci) (d3:Ci) (p0:dsOk (rci d0)=true) (p1:dsOk (rci d1)=true) (p2:dsOk (rci d2)=true) (p3:dsOk (rci d3)=true) (p4:Ci.all4 d0 d1 d2 d3=true) (p5:((cierr (Ci.swp d0 d1 d2 d3 d0)) != 0)=false):Calls Tryz.prog 43 #[.agg ⟨(ciC d0).toList++(ciC d1).toList++(ciC d2).toList++(ciC d3).toList⟩,.int .i64 0] W (RetV (.tuple #[.agg ⟨(rciC (cicut (Ci.swp d0 d1 d2 d3 d0))).toList++(ciC d1).toList++(ciC d2).toList++(ciC d3).toList⟩,.int .i64 0]) W):=by
 refine Run.goP (S:=Z0) ((Pack.nil.k (.agg ⟨(ciC d0).toList++(ciC d1).toList++(ciC d2).toList++(ciC d3).toList⟩) ((ciC d0).toList++(ciC d1).toList++(ciC d2).toList++(ciC d3).toList) (.s (.agg (ks 0 64)))).k (.int .i64 0) [] (.s (.o (.c (.int .i64 0))))) Tryz.func43 rfl ?_
 refine Run.cV ((rciC (cicut (Ci.swp d0 d1 d2 d3 d0))).toList++(ciC d1).toList++(ciC d2).toList++(ciC d3).toList) (.tup [.agg (ks 0 64),.o (.c (.int .i64 0))]) (fun _ _ _ H=>sws0Y d0 d1 d2 d3 3 (H.b 2) p0 p1 p2 p3 p4 p5) ?_
 exact Run.rV rfl
theorem fCmp (x:Rat) (y:Rat) (p0:ht x+ht y≤68719476736):Calls Tryz.prog 182 #[fV x,fV y] W (RetV (.int .i64 (icmp (x.num*(y.den:Int)) (y.num*(x.den:Int)))) W):=by
 have n0:=hi_num x
 have n1:=hi_num y
 have n2:=hi_den x
 have n3:=hi_den y
 have m0:=hi_mul x.num (y.den:Int)
 have m1:=hi_mul y.num (x.den:Int)
 refine Run.goP (S:=Z0) ((Pack.nil.k (fV x) (fC x).toList (.s (.agg (ks 0 4)))).k (fV y) (fC y).toList (.s (.agg (ks 0 4)))) Tryz.func182 rfl ?_
 refine Run.dr ?_
 refine RunD.cV (wC (x.num*(y.den:Int))).toList (.s (.agg (ks 0 2))) (fun _ _ _ H=>rTimes x.num (y.den:Int) (by omega)) ?_
 refine RunD.cV (wC (y.num*(x.den:Int))).toList (.s (.agg (ks 0 2))) (fun _ _ _ H=>rTimes y.num (x.den:Int) (by omega)) ?_
 refine RunD.cV [.int .i64 (icmp (x.num*(y.den:Int)) (y.num*(x.den:Int)))] kb (fun _ _ _ H=>rCmp (x.num*(y.den:Int)) (y.num*(x.den:Int)) (by omega)) ?_
 refine RunD.en ?_
 exact Run.rV rfl
theorem fSmall (a:Int) (b:Int) (p0:-9223372036854775808≤a) (p1:a≤9223372036854775807) (p2:-9223372036854775808≤b) (p3:b≤9223372036854775807) (p4:b≠0):Calls Tryz.prog 125 #[.int .i64 a,.int .i64 b] W (RetV (fV (Rat.divInt a b)) W):=by
 have n0:=hi_i64 p0 p1
 have n1:=hi_i64 p2 p3
 refine Run.goP (S:=Z0) ((Pack.nil.k (.int .i64 a) [.int .i64 a] kb).k (.int .i64 b) [.int .i64 b] kb) Tryz.func125 rfl ?_
 refine Run.cV (wC a).toList (.s (.agg (ks 0 2))) (fun _ _ _ H=>rOf a p0 p1) ?_
 refine Run.cV (wC b).toList (.s (.agg (ks 0 2))) (fun _ _ _ H=>rOf b p2 p3) ?_
 refine Run.cV (fC (Rat.divInt a b)).toList (.s (.agg (ks 0 4))) (fun _ _ _ H=>fOf a b (by first|omega|exact p4) p4) ?_
 exact Run.rV rfl
end Go.Proofs.YtcpjdjnaipbieaaGreat
namespace Go.Proofs.YtcpjdjnaipbieaaGreat
open Go.RowKit Rgn
set_option maxRecDepth 100000
set_option maxHeartbeats 4000000
section
variable {w:World}
theorem eqin_dk (d:Nat) (r q:RCi):(Op.equalIn (d+5) 29 (rciV r) (rciV q)).run Tryz.prog w=.ok (decide (r=q)) w:=by
 have hf:=fields_of Tryz.underlying29
 have e:decide (r=q)=((decide (r.a=q.a)&&(decide (r.b=q.b)&&(decide (r.c=q.c)&&true)))):=by
  cases r;cases q;simp only [RCi.mk.injEq,Bool.and_true,decide_eq_decide,Bool.decide_and]
 rw [e]
 rw [run_equalIn_struct _ _ _ _ _ (by rw [hf];exact Tryz.underlying29) (by kernel_rfl),hf]
 refine eqf_step (a:=rfV r.a) (b:=rfV q.a) (by decide) (by go_simp) (by go_simp) (eqin_frac _ _ _) (eqf_step (a:=rgV r.b) (b:=rgV q.b) (by decide) (by go_simp) (by go_simp) (eqin_gauss _ _ _) (eqf_step (a:=rfV r.c) (b:=rfV q.c) (by decide) (by go_simp) (by go_simp) (eqin_frac _ _ _) (eqf_nil)))
end
theorem ex_eql_dk {ρ:Operand→Value} {o:Oper} {w:World} {k:TypeId} (a b:Operand) (ho:o.op=.binOp .eql 29 a b k) {r q:RCi} (ha:ρ a=rciV r) (hb:ρ b=rciV q) {c:Bool} (hc:decide (r=q)=c) :
  (execOp ρ o).run Tryz.prog w=.ok (.value (.bool (c))) w:=by
 subst hc
 unfold execOp
 simp only [ho,ha,hb,rciV,Sem.run_bind]
 rw [run_eqGuard_agg (P:=Tryz.prog) w .eql 29 a b (rciC r) (rciC q) (by kernel_rfl)]
 simp only [Result.andThen_ok,Sem.run_bind,run_eql_struct,eqin_dk 9995 r q]
 rfl
theorem ex_neq_dk {ρ:Operand→Value} {o:Oper} {w:World} {k:TypeId} (a b:Operand) (ho:o.op=.binOp .neq 29 a b k) {r q:RCi} (ha:ρ a=rciV r) (hb:ρ b=rciV q) {c:Bool} (hc:decide (r=q)=c) :
  (execOp ρ o).run Tryz.prog w=.ok (.value (.bool (!c))) w:=by
 subst hc
 unfold execOp
 simp only [ho,ha,hb,rciV,Sem.run_bind]
 rw [run_eqGuard_agg (P:=Tryz.prog) w .neq 29 a b (rciC r) (rciC q) (by kernel_rfl)]
 simp only [Result.andThen_ok,Sem.run_bind,run_neq_struct,eqin_dk 9995 r q]
 rfl
end Go.Proofs.YtcpjdjnaipbieaaGreat
namespace Go.Proofs.YtcpjdjnaipbieaaGreat
open Go.RowKit Rgn Eng
def Ci.in4 (n re im co:Int):Ci:=⟨(n:Rat),Cx.ofInt re im,(co:Rat)⟩
theorem icmp_rat (x y:Rat):icmp (x.num*(y.den:Int)) (y.num*(x.den:Int))=(x-y).num.sign:=by
 have h1:x.num*(y.den:Int)<y.num*(x.den:Int)↔x<y:=(Rat.lt_iff x y).symm
 have h2:y.num*(x.den:Int)<x.num*(y.den:Int)↔y<x:=(Rat.lt_iff y x).symm
 have hn:∀ q:Rat,q.num<0↔q<0:=fun q=>by have:=Rat.lt_iff q 0;simpa using this.symm
 have hp:∀ q:Rat,0<q.num↔0<q:=fun q=>by have:=Rat.lt_iff 0 q;simpa using this.symm
 rcases Int.lt_trichotomy (x-y).num 0 with h|h|h
 ·have e:x<y:=by have:=(hn _).1 h;grind
  rw [icmp_lt (h1.2 e),Int.sign_eq_neg_one_of_neg h]
 ·have e:x=y:=by have:x-y=0:=Rat.num_eq_zero.1 h;grind
  subst e
  rw [icmp_eq rfl,h];rfl
 ·have e:y<x:=by have:=(hp _).1 h;grind
  rw [icmp_gt (h2.2 e),Int.sign_eq_one_of_pos h]
theorem rd_t1 {a b:Ci} (h:decide (a.dot b=(1:Rat))=true):(!decide (a=b.out))=a.touch b:=by
 have h:a.dot b=1:=of_decide_eq_true h
 unfold Ci.touch;rw [decide_eq_true h,Bool.true_and]
theorem rd_t0 {a b:Ci} (h:decide (a.dot b=(1:Rat))=false):false=a.touch b:=by
 have h:¬ a.dot b=1:=of_decide_eq_false h
 unfold Ci.touch;rw [decide_eq_false h,Bool.false_and]
def Ci.dk (c:Ci):Int:=if (!decide (c.b.norm-c.a*c.c=(1:Rat)))=true then 2 else 0
theorem dk_dot (c:Ci):c.b.norm-c.a*c.c=1↔c.dot c=-1:=by
 have h2:Rat.divInt (1:Int) (2:Int)=(1:Rat)/2:=by rw [Rat.divInt_eq_div];rfl
 unfold Ci.dot Cx.norm
 have e:(c.b.mul c.b.conj).re=c.b.re*c.b.re+c.b.im*c.b.im:=by unfold Cx.mul Cx.conj;grind
 rw [h2,e]
 grind
theorem dt3_eq (x0 x1 x2 y0 y1 y2 z0 z1 z2:Rat):((((0:Int):Rat)+x0*(y1*z2-y2*z1))+x1*(y2*z0-y0*z2))+x2*(y0*z1-y1*z0)=mn3 x0 x1 x2 y0 y1 y2 z0 z1 z2:=by
 have e:((0:Int):Rat)=0:=rfl
 rw [e];unfold mn3;grind
def ccmp (x y:Cx):Int:=if (icmp (x.re.num*(y.re.den:Int)) (y.re.num*(x.re.den:Int)) != 0)=true then icmp (x.re.num*(y.re.den:Int)) (y.re.num*(x.re.den:Int)) else icmp (x.im.num*(y.im.den:Int)) (y.im.num*(x.im.den:Int))
theorem ccmp_1 {x y:Cx} (h:(icmp (x.re.num*(y.re.den:Int)) (y.re.num*(x.re.den:Int)) != 0)=true):icmp (x.re.num*(y.re.den:Int)) (y.re.num*(x.re.den:Int))=ccmp x y:=by unfold ccmp;rw [if_pos h]
theorem ccmp_0 {x y:Cx} (h:(icmp (x.re.num*(y.re.den:Int)) (y.re.num*(x.re.den:Int)) != 0)=false):icmp (x.im.num*(y.im.den:Int)) (y.im.num*(x.im.den:Int))=ccmp x y:=by unfold ccmp;rw [if_neg (by rw [h];decide)]
section
variable {a b:Ci}
theorem ahd_s (a b:Ci):a.ahd b=fstN [-(a.a-b.a).num.sign,(a.b.re-b.b.re).num.sign,(a.b.im-b.b.im).num.sign,(a.c-b.c).num.sign]:=by
 unfold Ci.ahd;rw [icmp_rat,icmp_rat]
 first|rfl|done
theorem fst_1 (h:(icmp (a.a.num*(b.a.den:Int)) (b.a.num*(a.a.den:Int)) != 0)=true):decide (0<icmp (a.a.num*(b.a.den:Int)) (b.a.num*(a.a.den:Int)))=a.ahd b:=by
 rw [ahd_s];rw [icmp_rat] at h ⊢
 generalize (a.a-b.a).num.sign=s at *
 have h:s≠0:=by simpa using h
 unfold fstN
 rw [if_pos (by simp;omega)]
 congr 1;apply propext;omega
theorem fst_2 (h:(icmp (a.a.num*(b.a.den:Int)) (b.a.num*(a.a.den:Int)) != 0)=false) (h' : (ccmp a.b b.b != 0)=true):decide (ccmp a.b b.b<0)=a.ahd b:=by
 rw [ahd_s];rw [icmp_rat] at h
 unfold ccmp at *;rw [icmp_rat,icmp_rat] at *
 generalize (a.a-b.a).num.sign=s at *
 generalize (a.b.re-b.b.re).num.sign=t at *
 generalize (a.b.im-b.b.im).num.sign=u at *
 have h:s=0:=by simpa using h
 subst h
 by_cases ht:t=0
 ·subst ht
  have h' : u≠0:=by simpa using h'
  simp [fstN,h']
 ·simp [fstN,ht]
theorem fst_3 (h:(icmp (a.a.num*(b.a.den:Int)) (b.a.num*(a.a.den:Int)) != 0)=false) (h' : (ccmp a.b b.b != 0)=false):decide (icmp (a.c.num*(b.c.den:Int)) (b.c.num*(a.c.den:Int))<0)=a.ahd b:=by
 rw [ahd_s];rw [icmp_rat] at h ⊢
 unfold ccmp at *;rw [icmp_rat,icmp_rat] at *
 generalize (a.a-b.a).num.sign=s at *
 generalize (a.b.re-b.b.re).num.sign=t at *
 generalize (a.b.im-b.b.im).num.sign=u at *
 generalize (a.c-b.c).num.sign=v at *
 have h:s=0:=by simpa using h
 subst h
 by_cases ht:t=0
 ·subst ht
  have h' : u=0:=by simpa using h'
  subst h'
  by_cases hv:v=0
  ·subst hv;simp [fstN]
  ·simp [fstN,hv]
 ·exfalso
  have:(t != 0)=true:=by simpa using ht
  rw [if_pos this] at h'
  rw [this] at h';cases h'
end
end Go.Proofs.YtcpjdjnaipbieaaGreat
namespace Go.Proofs.YtcpjdjnaipbieaaGreat
open Go.RowKit Rgn Eng
set_option maxHeartbeats 8000000
set_option maxRecDepth 100000
variable {S:Nat→Prop} {W:World}
theorem rdPlus (a:Ci) (b:Ci) (p0:ht a.a+ht a.b.re+ht a.b.im+ht a.c+(ht b.a+ht b.b.re+ht b.b.im+ht b.c)≤67108000):Calls Tryz.prog 126 #[ciV a,ciV b] W (RetV (ciV (a.plus b)) W):=by
 have k0:=ht_add a.a b.a
 have k1:=hc_add a.b b.b
 have k2:=ht_add a.c b.c
 refine Run.goP (S:=Z0) ((Pack.nil.k (ciV a) (ciC a).toList (.s (.agg (ks 0 16)))).k (ciV b) (ciC b).toList (.s (.agg (ks 0 16)))) Tryz.func126 rfl ?_
 refine Run.dr ?_
 refine RunD.cV (fC (a.a+b.a)).toList (.s (.agg (ks 0 4))) (fun _ _ _ H=>fPlus a.a b.a (by omega)) ?_
 refine RunD.cV (gC (a.b.add b.b)).toList (.s (.agg (ks 0 8))) (fun _ _ _ H=>cPlus a.b b.b (by omega)) ?_
 refine RunD.cV (fC (a.c+b.c)).toList (.s (.agg (ks 0 4))) (fun _ _ _ H=>fPlus a.c b.c (by omega)) ?_
 refine RunD.en ?_
 exact Run.rV rfl
theorem rdOut (a:Ci):Calls Tryz.prog 89 #[ciV a] W (RetV (ciV a.out) W):=by
 have k0:=ht_neg a.a
 have k1:=hc_neg a.b
 have k2:=ht_neg a.c
 refine Run.goP (S:=Z0) (Pack.nil.k (ciV a) (ciC a).toList (.s (.agg (ks 0 16)))) Tryz.func89 rfl ?_
 refine Run.dr ?_
 refine RunD.cV (fC (-a.a)).toList (.s (.agg (ks 0 4))) (fun _ _ _ H=>fNeg a.a) ?_
 refine RunD.cV (gC a.b.neg).toList (.s (.agg (ks 0 8))) (fun _ _ _ H=>cNeg a.b) ?_
 refine RunD.cV (fC (-a.c)).toList (.s (.agg (ks 0 4))) (fun _ _ _ H=>fNeg a.c) ?_
 refine RunD.en ?_
 exact Run.rV rfl
theorem rdProd (a:Ci) (b:Ci) (p0:ht a.a+ht a.b.re+ht a.b.im+ht a.c≤5000000) (p1:ht b.a+ht b.b.re+ht b.b.im+ht b.c≤5000000):Calls Tryz.prog 92 #[ciV a,ciV b] W (RetV (fV (a.dot b)) W):=by
 obtain ⟨eaa,eba,eca⟩:=hb_ci p0
 obtain ⟨eab,ebb,ecb⟩:=hb_ci p1
 have k0:=hb_mul eaa ecb 10000000
 have k1:=hb_mul eab eca 10000000
 have k2:=hb_add k0 k1 20000000
 have k3:=HB.conj ebb
 have k4:=HB.mul eba k3 20000000
 have k5:=hb_mul k2 (by decide:ht (Rat.divInt (1) (2))≤4) 20000004
 have k6:=hb_sub k5 k4.1 40000004
 refine Run.goP (S:=Z0) ((Pack.nil.k (ciV a) (ciC a).toList (.s (.agg (ks 0 16)))).k (ciV b) (ciC b).toList (.s (.agg (ks 0 16)))) Tryz.func92 rfl ?_
 refine Run.dr ?_
 refine RunD.cV (fC (a.a*b.c)).toList (.s (.agg (ks 0 4))) (fun _ _ _ H=>fTimes a.a b.c (Nat.le_trans (Nat.add_le_add eaa ecb) (by decide))) ?_
 refine RunD.cV (fC (b.a*a.c)).toList (.s (.agg (ks 0 4))) (fun _ _ _ H=>fTimes b.a a.c (Nat.le_trans (Nat.add_le_add eab eca) (by decide))) ?_
 refine RunD.cV (fC ((a.a*b.c)+(b.a*a.c))).toList (.s (.agg (ks 0 4))) (fun _ _ _ H=>fPlus (a.a*b.c) (b.a*a.c) (Nat.le_trans (Nat.add_le_add k0 k1) (by decide))) ?_
 refine RunD.en ?_
 refine Run.dr ?_
 refine RunD.cV (gC b.b.conj).toList (.s (.agg (ks 0 8))) (fun _ _ _ H=>cConj b.b) ?_
 refine RunD.cV (gC (a.b.mul b.b.conj)).toList (.s (.agg (ks 0 8))) (fun _ _ _ H=>cTimes a.b b.b.conj (Nat.le_trans (Nat.add_le_add (Nat.add_le_add (Nat.add_le_add eba.1 eba.2) k3.1) k3.2) (by decide))) ?_
 refine RunD.en ?_
 refine Run.dr ?_
 refine RunD.cV (fC (Rat.divInt 1 2)).toList (.s (.agg (ks 0 4))) (fun _ _ _ H=>fSmall 1 2 (by decide) (by decide) (by decide) (by decide) (by decide)) ?_
 refine RunD.cV (fC (((a.a*b.c)+(b.a*a.c))*(Rat.divInt 1 2))).toList (.s (.agg (ks 0 4))) (fun _ _ _ H=>fTimes ((a.a*b.c)+(b.a*a.c)) (Rat.divInt 1 2) (Nat.le_trans (Nat.add_le_add k2 (by decide:ht (Rat.divInt (1) (2))≤4)) (by decide))) ?_
 refine RunD.cV (fC ((((a.a*b.c)+(b.a*a.c))*(Rat.divInt 1 2))-((a.b.mul b.b.conj).re))).toList (.s (.agg (ks 0 4))) (fun _ _ _ H=>fMinus (((a.a*b.c)+(b.a*a.c))*(Rat.divInt 1 2)) ((a.b.mul b.b.conj).re) (Nat.le_trans (Nat.add_le_add k5 k4.1) (by decide))) ?_
 refine RunD.en ?_
 exact Run.rV rfl
theorem rdTouch (a:Ci) (b:Ci) (p0:ht a.a+ht a.b.re+ht a.b.im+ht a.c≤5000000) (p1:ht b.a+ht b.b.re+ht b.b.im+ht b.c≤5000000):Calls Tryz.prog 94 #[ciV a,ciV b] W (RetV (.bool (a.touch b)) W):=by
 refine Run.goP (S:=Z0) ((Pack.nil.k (ciV a) (ciC a).toList (.s (.agg (ks 0 16)))).k (ciV b) (ciC b).toList (.s (.agg (ks 0 16)))) Tryz.func94 rfl ?_
 refine (Bool.eq_false_or_eq_true (decide (a.dot b=(1:Rat)))).elim (fun c1=>?_) (fun c1=>?_)
 · refine Run.dr ?_
   refine RunD.cV (fC (a.dot b)).toList (.s (.agg (ks 0 4))) (fun _ _ _ H=>rdProd a b p0 p1) ?_
   refine RunD.cV (fC (1:Rat)).toList (.s (.agg (ks 0 4))) (fun _ _ _ H=>fInt 1 (by decide) (by decide)) ?_
   refine RunD.bi [] (cb true) (fun _ _ _ o1 o2 _ ho hx hy=>ex_eql_frac (r:=(rf (a.dot b))) (q:=(rf (1:Rat))) o1 o2 ho hx hy ((rf_dec (a.dot b) (1:Rat)).trans c1)) ?_
   refine RunD.cV (ciC b.out).toList (.s (.agg (ks 0 16))) (fun _ _ _ H=>rdOut b) ?_
   refine RunD.bi [.bool (!decide (a=b.out))] kb (fun _ _ _ o1 o2 _ ho hx hy=>ex_neq_dk (r:=(rci a)) (q:=(rci b.out)) o1 o2 ho hx hy (rci_dec a b.out)) ?_
   refine RunD.en ?_
   exact Run.rV ((congrArg Value.bool (rd_t1 c1)))
 · refine Run.dr ?_
   refine RunD.cV (fC (a.dot b)).toList (.s (.agg (ks 0 4))) (fun _ _ _ H=>rdProd a b p0 p1) ?_
   refine RunD.cV (fC (1:Rat)).toList (.s (.agg (ks 0 4))) (fun _ _ _ H=>fInt 1 (by decide) (by decide)) ?_
   refine RunD.bi [] (cb false) (fun _ _ _ o1 o2 _ ho hx hy=>ex_eql_frac (r:=(rf (a.dot b))) (q:=(rf (1:Rat))) o1 o2 ho hx hy ((rf_dec (a.dot b) (1:Rat)).trans c1)) ?_
   refine RunD.en ?_
   exact Run.rV ((congrArg Value.bool (rd_t0 c1)))
theorem rdFits (r:RCi):Calls Tryz.prog 22 #[rciV r] W (RetV (.bool (cifits r)) W):=by
 refine Run.goP (S:=Z0) (Pack.nil.k (rciV r) (rciC r).toList (.s (.agg (ks 0 16)))) Tryz.func22 rfl ?_
 refine Run.cV [.bool (fits r.a)] kb (fun _ _ _ H=>fFits r.a) ?_
 refine (Bool.eq_false_or_eq_true (fits r.a)).elim (fun c1=>?_) (fun c1=>?_)
 · refine Run.kn c1 ?_
   refine Run.cV [.bool (gfits r.b)] kb (fun _ _ _ H=>cFits r.b) ?_
   refine (Bool.eq_false_or_eq_true (gfits r.b)).elim (fun c2=>?_) (fun c2=>?_)
   · refine Run.kn c2 ?_
     refine Run.cV [.bool (fits r.c)] kb (fun _ _ _ H=>fFits r.c) ?_
     exact Run.rV (V' := .bool (fits r.c)) ((by unfold cifits;rw [c1,c2];rfl))
   · refine Run.kn c2 ?_
     exact Run.rV (V' := .bool false) ((by unfold cifits;rw [c1,c2];rfl))
 · refine Run.kn c1 ?_
   exact Run.rV (V' := .bool false) ((by unfold cifits;rw [c1];rfl))
theorem rdChkT (c:Ci) (p0:cifits (rci c)=true):Calls Tryz.prog 18 #[ciV c] W (RetV (.int .i64 c.dk) W):=by
 have f:=cifits_ht p0
 have k0:=hc_norm c.b
 have k1:=ht_mul c.a c.c
 have k2:=ht_sub c.b.norm (c.a*c.c)
 refine Run.goP (S:=Z0) (Pack.nil.k (ciV c) (ciC c).toList (.s (.agg (ks 0 16)))) Tryz.func18 rfl ?_
 refine Run.cV [.bool (fmay (rf c.a))] kb (fun _ _ _ H=>fMay (rf c.a)) ?_
 refine Run.kn (cmay_a p0) ?_
 refine Run.cV [.bool (gmay (rg c.b))] kb (fun _ _ _ H=>cMay (rg c.b)) ?_
 refine Run.kn (cmay_b p0) ?_
 refine Run.cV [.bool (fmay (rf c.c))] kb (fun _ _ _ H=>fMay (rf c.c)) ?_
 refine Run.kn (cmay_c p0) ?_
 refine Run.dr ?_
 refine RunD.cV (fC c.b.norm).toList (.s (.agg (ks 0 4))) (fun _ _ _ H=>cNorm c.b (by omega)) ?_
 refine RunD.cV (fC (c.a*c.c)).toList (.s (.agg (ks 0 4))) (fun _ _ _ H=>fTimes c.a c.c (by omega)) ?_
 refine RunD.cV (fC (c.b.norm-(c.a*c.c))).toList (.s (.agg (ks 0 4))) (fun _ _ _ H=>fMinus c.b.norm (c.a*c.c) (by omega)) ?_
 refine RunD.cV (fC (1:Rat)).toList (.s (.agg (ks 0 4))) (fun _ _ _ H=>fInt 1 (by decide) (by decide)) ?_
 refine RunD.bi [.bool (!decide (c.b.norm-(c.a*c.c)=(1:Rat)))] kb (fun _ _ _ o1 o2 _ ho hx hy=>ex_neq_frac (r:=(rf (c.b.norm-(c.a*c.c)))) (q:=(rf (1:Rat))) o1 o2 ho hx hy (rf_dec (c.b.norm-(c.a*c.c)) (1:Rat))) ?_
 refine RunD.en ?_
 refine (Bool.eq_false_or_eq_true (!decide (c.b.norm-(c.a*c.c)=(1:Rat)))).elim (fun c1=>?_) (fun c1=>?_)
 · refine Run.kn c1 ?_
   exact Run.rV (V' := .int .i64 (2)) ((by simp only [Ci.dk,c1];rfl))
 · refine Run.kn c1 ?_
   exact Run.rV (V' := .int .i64 (0)) ((by simp only [Ci.dk,c1];rfl))
theorem rdChkA (r:RCi) (p0:fmay r.a=false):Calls Tryz.prog 18 #[rciV r] W (RetV (.int .i64 2) W):=by
 refine Run.goP (S:=Z0) (Pack.nil.k (rciV r) (rciC r).toList (.s (.agg (ks 0 16)))) Tryz.func18 rfl ?_
 refine Run.cV [.bool (fmay r.a)] kb (fun _ _ _ H=>fMay r.a) ?_
 refine Run.kn p0 ?_
 exact Run.rV rfl
theorem rdChkB (r:RCi) (p0:fmay r.a=true) (p1:gmay r.b=false):Calls Tryz.prog 18 #[rciV r] W (RetV (.int .i64 2) W):=by
 refine Run.goP (S:=Z0) (Pack.nil.k (rciV r) (rciC r).toList (.s (.agg (ks 0 16)))) Tryz.func18 rfl ?_
 refine Run.cV [.bool (fmay r.a)] kb (fun _ _ _ H=>fMay r.a) ?_
 refine Run.kn p0 ?_
 refine Run.cV [.bool (gmay r.b)] kb (fun _ _ _ H=>cMay r.b) ?_
 refine Run.kn p1 ?_
 exact Run.rV rfl
theorem rdChkC (r:RCi) (p0:fmay r.a=true) (p1:gmay r.b=true) (p2:fmay r.c=false):Calls Tryz.prog 18 #[rciV r] W (RetV (.int .i64 2) W):=by
 refine Run.goP (S:=Z0) (Pack.nil.k (rciV r) (rciC r).toList (.s (.agg (ks 0 16)))) Tryz.func18 rfl ?_
 refine Run.cV [.bool (fmay r.a)] kb (fun _ _ _ H=>fMay r.a) ?_
 refine Run.kn p0 ?_
 refine Run.cV [.bool (gmay r.b)] kb (fun _ _ _ H=>cMay r.b) ?_
 refine Run.kn p1 ?_
 refine Run.cV [.bool (fmay r.c)] kb (fun _ _ _ H=>fMay r.c) ?_
 refine Run.kn p2 ?_
 exact Run.rV rfl
theorem rdParts (a:Ci):Calls Tryz.prog 122 #[ciV a] W (RetV (.agg ⟨(fC a.a).toList++(fC a.c).toList++(fC a.b.re).toList++(fC a.b.im).toList⟩) W):=by
 refine Run.goP (S:=Z0) (Pack.nil.k (ciV a) (ciC a).toList (.s (.agg (ks 0 16)))) Tryz.func122 rfl ?_
 exact Run.rV rfl
theorem rdWo0 (w0:Rat) (w1:Rat) (w2:Rat) (w3:Rat):Calls Tryz.prog 124 #[.agg ⟨(fC w0).toList++(fC w1).toList++(fC w2).toList++(fC w3).toList⟩,.int .i64 0] W (RetV (.agg ⟨(fC w1).toList++(fC w2).toList++(fC w3).toList⟩) W):=by
 refine Run.goP (S:=Z0) ((Pack.nil.k (.agg ⟨(fC w0).toList++(fC w1).toList++(fC w2).toList++(fC w3).toList⟩) ((fC w0).toList++(fC w1).toList++(fC w2).toList++(fC w3).toList) (.s (.agg (ks 0 16)))).k (.int .i64 0) [] (.s (.o (.c (.int .i64 0))))) Tryz.func124 rfl ?_
 exact Run.rV rfl
theorem rdWo1 (w0:Rat) (w1:Rat) (w2:Rat) (w3:Rat):Calls Tryz.prog 124 #[.agg ⟨(fC w0).toList++(fC w1).toList++(fC w2).toList++(fC w3).toList⟩,.int .i64 1] W (RetV (.agg ⟨(fC w0).toList++(fC w2).toList++(fC w3).toList⟩) W):=by
 refine Run.goP (S:=Z0) ((Pack.nil.k (.agg ⟨(fC w0).toList++(fC w1).toList++(fC w2).toList++(fC w3).toList⟩) ((fC w0).toList++(fC w1).toList++(fC w2).toList++(fC w3).toList) (.s (.agg (ks 0 16)))).k (.int .i64 1) [] (.s (.o (.c (.int .i64 1))))) Tryz.func124 rfl ?_
 exact Run.rV rfl
theorem rdWo2 (w0:Rat) (w1:Rat) (w2:Rat) (w3:Rat):Calls Tryz.prog 124 #[.agg ⟨(fC w0).toList++(fC w1).toList++(fC w2).toList++(fC w3).toList⟩,.int .i64 2] W (RetV (.agg ⟨(fC w0).toList++(fC w1).toList++(fC w3).toList⟩) W):=by
 refine Run.goP (S:=Z0) ((Pack.nil.k (.agg ⟨(fC w0).toList++(fC w1).toList++(fC w2).toList++(fC w3).toList⟩) ((fC w0).toList++(fC w1).toList++(fC w2).toList++(fC w3).toList) (.s (.agg (ks 0 16)))).k (.int .i64 2) [] (.s (.o (.c (.int .i64 2))))) Tryz.func124 rfl ?_
 exact Run.rV rfl
theorem rdWo3 (w0:Rat) (w1:Rat) (w2:Rat) (w3:Rat):Calls Tryz.prog 124 #[.agg ⟨(fC w0).toList++(fC w1).toList++(fC w2).toList++(fC w3).toList⟩,.int .i64 3] W (RetV (.agg ⟨(fC w0).toList++(fC w1).toList++(fC w2).toList⟩) W):=by
 refine Run.goP (S:=Z0) ((Pack.nil.k (.agg ⟨(fC w0).toList++(fC w1).toList++(fC w2).toList++(fC w3).toList⟩) ((fC w0).toList++(fC w1).toList++(fC w2).toList++(fC w3).toList) (.s (.agg (ks 0 16)))).k (.int .i64 3) [] (.s (.o (.c (.int .i64 3))))) Tryz.func124 rfl ?_
 exact Run.rV rfl
theorem rdDet (x0:Rat) (x1:Rat) (x2:Rat) (y0:Rat) (y1:Rat) (y2:Rat) (z0:Rat) (z1:Rat) (z2:Rat) (p0:ht x0≤40000) (p1:ht x1≤40000) (p2:ht x2≤40000) (p3:ht y0≤40000) (p4:ht y1≤40000) (p5:ht y2≤40000) (p6:ht z0≤40000) (p7:ht z1≤40000) (p8:ht z2≤40000):Calls Tryz.prog 123 #[.agg ⟨(fC x0).toList++(fC x1).toList++(fC x2).toList⟩,.agg ⟨(fC y0).toList++(fC y1).toList++(fC y2).toList⟩,.agg ⟨(fC z0).toList++(fC z1).toList++(fC z2).toList⟩] W (RetV (fV (mn3 x0 x1 x2 y0 y1 y2 z0 z1 z2)) W):=by
 have k0:=hb_mul p4 p8 80000
 have k1:=hb_mul p5 p7 80000
 have k2:=hb_sub k0 k1 160000
 have k3:=hb_mul p0 k2 200000
 have k4:=hb_add (Nat.le_of_eq ht_zero) k3 200002
 have k5:=hb_mul p5 p6 80000
 have k6:=hb_mul p3 p8 80000
 have k7:=hb_sub k5 k6 160000
 have k8:=hb_mul p1 k7 200000
 have k9:=hb_add k4 k8 400002
 have k10:=hb_mul p3 p7 80000
 have k11:=hb_mul p4 p6 80000
 have k12:=hb_sub k10 k11 160000
 have k13:=hb_mul p2 k12 200000
 have k14:=hb_add k9 k13 600002
 refine Run.goP (S:=Z0) (((Pack.nil.k (.agg ⟨(fC x0).toList++(fC x1).toList++(fC x2).toList⟩) ((fC x0).toList++(fC x1).toList++(fC x2).toList) (.s (.agg (ks 0 12)))).k (.agg ⟨(fC y0).toList++(fC y1).toList++(fC y2).toList⟩) ((fC y0).toList++(fC y1).toList++(fC y2).toList) (.s (.agg (ks 0 12)))).k (.agg ⟨(fC z0).toList++(fC z1).toList++(fC z2).toList⟩) ((fC z0).toList++(fC z1).toList++(fC z2).toList) (.s (.agg (ks 0 12)))) Tryz.func123 rfl ?_
 refine Run.cV (fC (0:Rat)).toList (.s (.agg (ks 0 4))) (fun _ _ _ H=>fInt 0 (by decide) (by decide)) ?_
 refine Run.dr ?_
 refine RunD.cV (fC (y1*z2)).toList (.s (.agg (ks 0 4))) (fun _ _ _ H=>fTimes y1 z2 (Nat.le_trans (Nat.add_le_add p4 p8) (by decide))) ?_
 refine RunD.en ?_
 refine Run.dr ?_
 refine RunD.cV (fC (y2*z1)).toList (.s (.agg (ks 0 4))) (fun _ _ _ H=>fTimes y2 z1 (Nat.le_trans (Nat.add_le_add p5 p7) (by decide))) ?_
 refine RunD.en ?_
 refine Run.dr ?_
 refine RunD.cV (fC ((y1*z2)-(y2*z1))).toList (.s (.agg (ks 0 4))) (fun _ _ _ H=>fMinus (y1*z2) (y2*z1) (Nat.le_trans (Nat.add_le_add k0 k1) (by decide))) ?_
 refine RunD.cV (fC (x0*((y1*z2)-(y2*z1)))).toList (.s (.agg (ks 0 4))) (fun _ _ _ H=>fTimes x0 ((y1*z2)-(y2*z1)) (Nat.le_trans (Nat.add_le_add p0 k2) (by decide))) ?_
 refine RunD.cV (fC ((0:Rat)+(x0*((y1*z2)-(y2*z1))))).toList (.s (.agg (ks 0 4))) (fun _ _ _ H=>fPlus (0:Rat) (x0*((y1*z2)-(y2*z1))) (Nat.le_trans (Nat.add_le_add (Nat.le_of_eq ht_zero) k3) (by decide))) ?_
 refine RunD.en ?_
 refine Run.dr ?_
 refine RunD.cV (fC (y2*z0)).toList (.s (.agg (ks 0 4))) (fun _ _ _ H=>fTimes y2 z0 (Nat.le_trans (Nat.add_le_add p5 p6) (by decide))) ?_
 refine RunD.en ?_
 refine Run.dr ?_
 refine RunD.cV (fC (y0*z2)).toList (.s (.agg (ks 0 4))) (fun _ _ _ H=>fTimes y0 z2 (Nat.le_trans (Nat.add_le_add p3 p8) (by decide))) ?_
 refine RunD.en ?_
 refine Run.dr ?_
 refine RunD.cV (fC ((y2*z0)-(y0*z2))).toList (.s (.agg (ks 0 4))) (fun _ _ _ H=>fMinus (y2*z0) (y0*z2) (Nat.le_trans (Nat.add_le_add k5 k6) (by decide))) ?_
 refine RunD.cV (fC (x1*((y2*z0)-(y0*z2)))).toList (.s (.agg (ks 0 4))) (fun _ _ _ H=>fTimes x1 ((y2*z0)-(y0*z2)) (Nat.le_trans (Nat.add_le_add p1 k7) (by decide))) ?_
 refine RunD.cV (fC (((0:Rat)+(x0*((y1*z2)-(y2*z1))))+(x1*((y2*z0)-(y0*z2))))).toList (.s (.agg (ks 0 4))) (fun _ _ _ H=>fPlus ((0:Rat)+(x0*((y1*z2)-(y2*z1)))) (x1*((y2*z0)-(y0*z2))) (Nat.le_trans (Nat.add_le_add k4 k8) (by decide))) ?_
 refine RunD.en ?_
 refine Run.dr ?_
 refine RunD.cV (fC (y0*z1)).toList (.s (.agg (ks 0 4))) (fun _ _ _ H=>fTimes y0 z1 (Nat.le_trans (Nat.add_le_add p3 p7) (by decide))) ?_
 refine RunD.en ?_
 refine Run.dr ?_
 refine RunD.cV (fC (y1*z0)).toList (.s (.agg (ks 0 4))) (fun _ _ _ H=>fTimes y1 z0 (Nat.le_trans (Nat.add_le_add p4 p6) (by decide))) ?_
 refine RunD.en ?_
 refine Run.dr ?_
 refine RunD.cV (fC ((y0*z1)-(y1*z0))).toList (.s (.agg (ks 0 4))) (fun _ _ _ H=>fMinus (y0*z1) (y1*z0) (Nat.le_trans (Nat.add_le_add k10 k11) (by decide))) ?_
 refine RunD.cV (fC (x2*((y0*z1)-(y1*z0)))).toList (.s (.agg (ks 0 4))) (fun _ _ _ H=>fTimes x2 ((y0*z1)-(y1*z0)) (Nat.le_trans (Nat.add_le_add p2 k12) (by decide))) ?_
 refine RunD.cV (fC ((((0:Rat)+(x0*((y1*z2)-(y2*z1))))+(x1*((y2*z0)-(y0*z2))))+(x2*((y0*z1)-(y1*z0))))).toList (.s (.agg (ks 0 4))) (fun _ _ _ H=>fPlus (((0:Rat)+(x0*((y1*z2)-(y2*z1))))+(x1*((y2*z0)-(y0*z2)))) (x2*((y0*z1)-(y1*z0))) (Nat.le_trans (Nat.add_le_add k9 k13) (by decide))) ?_
 refine RunD.en ?_
 exact Run.rV ((congrArg fV (dt3_eq _ _ _ _ _ _ _ _ _)))
theorem cCmp (x:Cx) (y:Cx) (p0:ht x.re+ht y.re≤67108864) (p1:ht x.im+ht y.im≤67108864):Calls Tryz.prog 233 #[gV x,gV y] W (RetV (.int .i64 (ccmp x y)) W):=by
 refine Run.goP (S:=Z0) ((Pack.nil.k (gV x) (gC x).toList (.s (.agg (ks 0 8)))).k (gV y) (gC y).toList (.s (.agg (ks 0 8)))) Tryz.func233 rfl ?_
 refine Run.cV [.int .i64 (icmp (x.re.num*(y.re.den:Int)) (y.re.num*(x.re.den:Int)))] kb (fun _ _ _ H=>fCmp x.re y.re (by omega)) ?_
 refine Run.ic (icmp (x.re.num*(y.re.den:Int)) (y.re.num*(x.re.den:Int))) 0 ((icmp (x.re.num*(y.re.den:Int)) (y.re.num*(x.re.den:Int))) != 0) ?_
 refine (Bool.eq_false_or_eq_true ((icmp (x.re.num*(y.re.den:Int)) (y.re.num*(x.re.den:Int))) != 0)).elim (fun c1=>?_) (fun c1=>?_)
 · refine Run.kn c1 ?_
   exact Run.rV ((congrArg (Value.int .i64) (ccmp_1 c1)))
 · refine Run.kn c1 ?_
   refine Run.cV [.int .i64 (icmp (x.im.num*(y.im.den:Int)) (y.im.num*(x.im.den:Int)))] kb (fun _ _ _ H=>fCmp x.im y.im (by omega)) ?_
   exact Run.rV ((congrArg (Value.int .i64) (ccmp_0 c1)))
theorem rdFst (a:Ci) (b:Ci) (p0:ht a.a+ht a.b.re+ht a.b.im+ht a.c≤5000000) (p1:ht b.a+ht b.b.re+ht b.b.im+ht b.c≤5000000):Calls Tryz.prog 127 #[ciV a,ciV b] W (RetV (.bool (a.ahd b)) W):=by
 refine Run.goP (S:=Z0) ((Pack.nil.k (ciV a) (ciC a).toList (.s (.agg (ks 0 16)))).k (ciV b) (ciC b).toList (.s (.agg (ks 0 16)))) Tryz.func127 rfl ?_
 refine Run.cV [.int .i64 (icmp (a.a.num*(b.a.den:Int)) (b.a.num*(a.a.den:Int)))] kb (fun _ _ _ H=>fCmp a.a b.a (by omega)) ?_
 refine Run.ic (icmp (a.a.num*(b.a.den:Int)) (b.a.num*(a.a.den:Int))) 0 ((icmp (a.a.num*(b.a.den:Int)) (b.a.num*(a.a.den:Int))) != 0) ?_
 refine (Bool.eq_false_or_eq_true ((icmp (a.a.num*(b.a.den:Int)) (b.a.num*(a.a.den:Int))) != 0)).elim (fun c1=>?_) (fun c1=>?_)
 · refine Run.kn c1 ?_
   refine Run.ic (icmp (a.a.num*(b.a.den:Int)) (b.a.num*(a.a.den:Int))) 0 (decide (0<(icmp (a.a.num*(b.a.den:Int)) (b.a.num*(a.a.den:Int))))) ?_
   exact Run.rV ((congrArg Value.bool (fst_1 c1)))
 · refine Run.kn c1 ?_
   refine Run.cV [.int .i64 (ccmp a.b b.b)] kb (fun _ _ _ H=>cCmp a.b b.b (by omega) (by omega)) ?_
   refine Run.ic (ccmp a.b b.b) 0 ((ccmp a.b b.b) != 0) ?_
   refine (Bool.eq_false_or_eq_true ((ccmp a.b b.b) != 0)).elim (fun c2=>?_) (fun c2=>?_)
   · refine Run.kn c2 ?_
     refine Run.ic (ccmp a.b b.b) 0 (decide ((ccmp a.b b.b)<0)) ?_
     exact Run.rV ((congrArg Value.bool (fst_2 c1 c2)))
   · refine Run.kn c2 ?_
     refine Run.cV [.int .i64 (icmp (a.c.num*(b.c.den:Int)) (b.c.num*(a.c.den:Int)))] kb (fun _ _ _ H=>fCmp a.c b.c (by omega)) ?_
     refine Run.ic (icmp (a.c.num*(b.c.den:Int)) (b.c.num*(a.c.den:Int))) 0 (decide ((icmp (a.c.num*(b.c.den:Int)) (b.c.num*(a.c.den:Int)))<0)) ?_
     exact Run.rV ((congrArg Value.bool (fst_3 c1 c2)))
end Go.Proofs.YtcpjdjnaipbieaaGreat
namespace Go.Proofs.YtcpjdjnaipbieaaGreat
open Go.RowKit Rgn Eng
variable {W:World}
theorem rdChkO (c:Ci) (p0:dsOk (rci c)=true):Calls Tryz.prog 18 #[ciV c] W (RetV (.int .i64 0) W):=by
 obtain ⟨h1,h2⟩:=dsOk_c p0
 refine reV (congrArg (Value.int .i64) ?_) (rdChkT c h1)
 unfold Ci.dk;rw [decide_eq_true ((dk_dot c).2 h2)];rfl
theorem rdChkN (r:RCi) (p0:dsOk r=false):Calls Tryz.prog 18 #[rciV r] W (RetV (.int .i64 2) W):=by
 cases ha:fmay r.a with
 | false=>exact rdChkA r ha
 | true =>
  cases hb:gmay r.b with
  | false=>exact rdChkB r ha hb
  | true =>
   cases hc:fmay r.c with
   | false=>exact rdChkC r ha hb hc
   | true =>
    obtain ⟨c,rfl,hf⟩:=ci_of ha hb hc
    refine reV (congrArg (Value.int .i64) ?_) (rdChkT c hf)
    unfold Ci.dk;rw [decide_eq_false (fun e=>dsOk_no p0 ⟨c,rfl,hf,(dk_dot c).1 e⟩)];rfl
def Ci.rdV (a b c:Ci):Ci:=Ci.mk (-(mn3 a.a a.b.re a.b.im b.a b.b.re b.b.im c.a c.b.re c.b.im)) (Cx.mk ((mn3 a.a a.c a.b.im b.a b.c b.b.im c.a c.c c.b.im)*(Rat.divInt (-1) 2)) ((-(mn3 a.a a.c a.b.re b.a b.c b.b.re c.a c.c c.b.re))*(Rat.divInt (-1) 2))) (mn3 a.c a.b.re a.b.im b.c b.b.re b.b.im c.c c.b.re c.b.im)
theorem rdV_eq (a b c:Ci):Ci.rdV a b c=Ci.acr a b c:=by
 unfold Ci.rdV Ci.acr
 congr 1
 refine Cx.ext' ?_ ?_
 ·simp only [Cx.scale,Cx.add,Cx.mul,Cx.ofInt];grind
 ·simp only [Cx.scale,Cx.add,Cx.mul,Cx.ofInt];grind
theorem rdV_ht {x y z:Ci} (h1:ht x.a+ht x.b.re+ht x.b.im+ht x.c≤40000) (h2:ht y.a+ht y.b.re+ht y.b.im+ht y.c≤40000) (h3:ht z.a+ht z.b.re+ht z.b.im+ht z.c≤40000):ht (Ci.rdV x y z).a+ht (Ci.rdV x y z).b.re+ht (Ci.rdV x y z).b.im+ht (Ci.rdV x y z).c≤4800036:=by rw [rdV_eq];exact acr_ht h1 h2 h3
theorem plus_as (a b c:Ci):a.plus (b.plus c)=(a.plus b).plus c:=by
 unfold Ci.plus
 congr 1
 ·grind
 ·refine Cx.ext' ?_ ?_<;>(simp only [Cx.add];grind)
 ·grind
section
variable {a b c:Ci}
theorem rd4_1 (h:((a.plus (b.plus c)).plus (Ci.rdV a b c).out).ahd ((a.plus (b.plus c)).plus (Ci.rdV a b c))=true):Value.tuple #[ciV ((a.plus (b.plus c)).plus (Ci.rdV a b c).out),ciV ((a.plus (b.plus c)).plus (Ci.rdV a b c))]=.tuple #[ciV (Ci.f4p a b c),ciV (Ci.f4q a b c)]:=by
 rw [plus_as,rdV_eq] at *
 have h:(Ci.f4y a b c).ahd (Ci.f4x a b c)=true:=h
 unfold Ci.f4p Ci.f4q;rw [if_pos h,if_pos h];rfl
theorem rd4_0 (h:((a.plus (b.plus c)).plus (Ci.rdV a b c).out).ahd ((a.plus (b.plus c)).plus (Ci.rdV a b c))=false):Value.tuple #[ciV ((a.plus (b.plus c)).plus (Ci.rdV a b c)),ciV ((a.plus (b.plus c)).plus (Ci.rdV a b c).out)]=.tuple #[ciV (Ci.f4p a b c),ciV (Ci.f4q a b c)]:=by
 rw [plus_as,rdV_eq] at *
 have h:¬ (Ci.f4y a b c).ahd (Ci.f4x a b c)=true:=by
  show ¬ (((a.plus b).plus c).plus (Ci.acr a b c).out).ahd (((a.plus b).plus c).plus (Ci.acr a b c))=true
  rw [h];decide
 unfold Ci.f4p Ci.f4q;rw [if_neg h,if_neg h];rfl
end
end Go.Proofs.YtcpjdjnaipbieaaGreat
namespace Go.Proofs.YtcpjdjnaipbieaaGreat
open Go.RowKit Rgn Eng
set_option maxHeartbeats 8000000
set_option maxRecDepth 100000
variable {S:Nat→Prop} {W:World}
theorem rd4 (a:Ci) (b:Ci) (c:Ci) (p0:ht a.a+ht a.b.re+ht a.b.im+ht a.c≤40000) (p1:ht b.a+ht b.b.re+ht b.b.im+ht b.c≤40000) (p2:ht c.a+ht c.b.re+ht c.b.im+ht c.c≤40000):Calls Tryz.prog 21 #[ciV a,ciV b,ciV c] W (RetV (.tuple #[ciV (Ci.f4p a b c),ciV (Ci.f4q a b c)]) W):=by
 obtain ⟨eaa,eba,eca⟩:=hb_ci p0
 obtain ⟨eab,ebb,ecb⟩:=hb_ci p1
 obtain ⟨eac,ebc,ecc⟩:=hb_ci p2
 have h1:=plus_ht b c
 have h2:=plus_ht a (b.plus c)
 have h3:=rdV_ht p0 p1 p2
 have h4:=out_hs (Ci.rdV a b c)
 have h5:=plus_ht (a.plus (b.plus c)) (Ci.rdV a b c)
 have h6:=plus_ht (a.plus (b.plus c)) (Ci.rdV a b c).out
 have k0:=mn3_hb eca eba.1 eba.2 ecb ebb.1 ebb.2 ecc ebc.1 ebc.2
 have k1:=mn3_hb eaa eba.1 eba.2 eab ebb.1 ebb.2 eac ebc.1 ebc.2
 have k2:=hb_neg k1
 have k3:=mn3_hb eaa eca eba.2 eab ecb ebb.2 eac ecc ebc.2
 have k4:=mn3_hb eaa eca eba.1 eab ecb ebb.1 eac ecc ebc.1
 have k5:=hb_neg k4
 have k6:=hb_mul k3 (by decide:ht (Rat.divInt (-1) (2))≤4) 600006
 have k7:=hb_mul k5 (by decide:ht (Rat.divInt (-1) (2))≤4) 600006
 refine Run.goP (S:=Z0) (((Pack.nil.k (ciV a) (ciC a).toList (.s (.agg (ks 0 16)))).k (ciV b) (ciC b).toList (.s (.agg (ks 0 16)))).k (ciV c) (ciC c).toList (.s (.agg (ks 0 16)))) Tryz.func21 rfl ?_
 refine Run.dr ?_
 refine RunD.cV ((fC a.a).toList++(fC a.c).toList++(fC a.b.re).toList++(fC a.b.im).toList) (.s (.agg (ks 0 16))) (fun _ _ _ H=>rdParts a) ?_
 refine RunD.cV ((fC b.a).toList++(fC b.c).toList++(fC b.b.re).toList++(fC b.b.im).toList) (.s (.agg (ks 0 16))) (fun _ _ _ H=>rdParts b) ?_
 refine RunD.cV ((fC c.a).toList++(fC c.c).toList++(fC c.b.re).toList++(fC c.b.im).toList) (.s (.agg (ks 0 16))) (fun _ _ _ H=>rdParts c) ?_
 refine RunD.en ?_
 refine Run.dr ?_
 refine RunD.cV ((fC a.c).toList++(fC a.b.re).toList++(fC a.b.im).toList) (.s (.agg (ks 0 12))) (fun _ _ _ H=>rdWo0 a.a a.c a.b.re a.b.im) ?_
 refine RunD.cV ((fC b.c).toList++(fC b.b.re).toList++(fC b.b.im).toList) (.s (.agg (ks 0 12))) (fun _ _ _ H=>rdWo0 b.a b.c b.b.re b.b.im) ?_
 refine RunD.cV ((fC c.c).toList++(fC c.b.re).toList++(fC c.b.im).toList) (.s (.agg (ks 0 12))) (fun _ _ _ H=>rdWo0 c.a c.c c.b.re c.b.im) ?_
 refine RunD.cV (fC (mn3 a.c a.b.re a.b.im b.c b.b.re b.b.im c.c c.b.re c.b.im)).toList (.s (.agg (ks 0 4))) (fun _ _ _ H=>rdDet a.c a.b.re a.b.im b.c b.b.re b.b.im c.c c.b.re c.b.im (Nat.le_trans eca (by decide)) (Nat.le_trans eba.1 (by decide)) (Nat.le_trans eba.2 (by decide)) (Nat.le_trans ecb (by decide)) (Nat.le_trans ebb.1 (by decide)) (Nat.le_trans ebb.2 (by decide)) (Nat.le_trans ecc (by decide)) (Nat.le_trans ebc.1 (by decide)) (Nat.le_trans ebc.2 (by decide))) ?_
 refine RunD.en ?_
 refine Run.dr ?_
 refine RunD.cV ((fC a.a).toList++(fC a.b.re).toList++(fC a.b.im).toList) (.s (.agg (ks 0 12))) (fun _ _ _ H=>rdWo1 a.a a.c a.b.re a.b.im) ?_
 refine RunD.cV ((fC b.a).toList++(fC b.b.re).toList++(fC b.b.im).toList) (.s (.agg (ks 0 12))) (fun _ _ _ H=>rdWo1 b.a b.c b.b.re b.b.im) ?_
 refine RunD.cV ((fC c.a).toList++(fC c.b.re).toList++(fC c.b.im).toList) (.s (.agg (ks 0 12))) (fun _ _ _ H=>rdWo1 c.a c.c c.b.re c.b.im) ?_
 refine RunD.cV (fC (mn3 a.a a.b.re a.b.im b.a b.b.re b.b.im c.a c.b.re c.b.im)).toList (.s (.agg (ks 0 4))) (fun _ _ _ H=>rdDet a.a a.b.re a.b.im b.a b.b.re b.b.im c.a c.b.re c.b.im (Nat.le_trans eaa (by decide)) (Nat.le_trans eba.1 (by decide)) (Nat.le_trans eba.2 (by decide)) (Nat.le_trans eab (by decide)) (Nat.le_trans ebb.1 (by decide)) (Nat.le_trans ebb.2 (by decide)) (Nat.le_trans eac (by decide)) (Nat.le_trans ebc.1 (by decide)) (Nat.le_trans ebc.2 (by decide))) ?_
 refine RunD.en ?_
 refine Run.cV (fC (-(mn3 a.a a.b.re a.b.im b.a b.b.re b.b.im c.a c.b.re c.b.im))).toList (.s (.agg (ks 0 4))) (fun _ _ _ H=>fNeg (mn3 a.a a.b.re a.b.im b.a b.b.re b.b.im c.a c.b.re c.b.im)) ?_
 refine Run.dr ?_
 refine RunD.cV ((fC a.a).toList++(fC a.c).toList++(fC a.b.im).toList) (.s (.agg (ks 0 12))) (fun _ _ _ H=>rdWo2 a.a a.c a.b.re a.b.im) ?_
 refine RunD.cV ((fC b.a).toList++(fC b.c).toList++(fC b.b.im).toList) (.s (.agg (ks 0 12))) (fun _ _ _ H=>rdWo2 b.a b.c b.b.re b.b.im) ?_
 refine RunD.cV ((fC c.a).toList++(fC c.c).toList++(fC c.b.im).toList) (.s (.agg (ks 0 12))) (fun _ _ _ H=>rdWo2 c.a c.c c.b.re c.b.im) ?_
 refine RunD.cV (fC (mn3 a.a a.c a.b.im b.a b.c b.b.im c.a c.c c.b.im)).toList (.s (.agg (ks 0 4))) (fun _ _ _ H=>rdDet a.a a.c a.b.im b.a b.c b.b.im c.a c.c c.b.im (Nat.le_trans eaa (by decide)) (Nat.le_trans eca (by decide)) (Nat.le_trans eba.2 (by decide)) (Nat.le_trans eab (by decide)) (Nat.le_trans ecb (by decide)) (Nat.le_trans ebb.2 (by decide)) (Nat.le_trans eac (by decide)) (Nat.le_trans ecc (by decide)) (Nat.le_trans ebc.2 (by decide))) ?_
 refine RunD.en ?_
 refine Run.dr ?_
 refine RunD.cV ((fC a.a).toList++(fC a.c).toList++(fC a.b.re).toList) (.s (.agg (ks 0 12))) (fun _ _ _ H=>rdWo3 a.a a.c a.b.re a.b.im) ?_
 refine RunD.cV ((fC b.a).toList++(fC b.c).toList++(fC b.b.re).toList) (.s (.agg (ks 0 12))) (fun _ _ _ H=>rdWo3 b.a b.c b.b.re b.b.im) ?_
 refine RunD.cV ((fC c.a).toList++(fC c.c).toList++(fC c.b.re).toList) (.s (.agg (ks 0 12))) (fun _ _ _ H=>rdWo3 c.a c.c c.b.re c.b.im) ?_
 refine RunD.cV (fC (mn3 a.a a.c a.b.re b.a b.c b.b.re c.a c.c c.b.re)).toList (.s (.agg (ks 0 4))) (fun _ _ _ H=>rdDet a.a a.c a.b.re b.a b.c b.b.re c.a c.c c.b.re (Nat.le_trans eaa (by decide)) (Nat.le_trans eca (by decide)) (Nat.le_trans eba.1 (by decide)) (Nat.le_trans eab (by decide)) (Nat.le_trans ecb (by decide)) (Nat.le_trans ebb.1 (by decide)) (Nat.le_trans eac (by decide)) (Nat.le_trans ecc (by decide)) (Nat.le_trans ebc.1 (by decide))) ?_
 refine RunD.en ?_
 refine Run.cV (fC (-(mn3 a.a a.c a.b.re b.a b.c b.b.re c.a c.c c.b.re))).toList (.s (.agg (ks 0 4))) (fun _ _ _ H=>fNeg (mn3 a.a a.c a.b.re b.a b.c b.b.re c.a c.c c.b.re)) ?_
 refine Run.cV (fC (Rat.divInt (-1) 2)).toList (.s (.agg (ks 0 4))) (fun _ _ _ H=>fSmall (-1) 2 (by decide) (by decide) (by decide) (by decide) (by decide)) ?_
 refine Run.dr ?_
 refine RunD.cV (fC ((mn3 a.a a.c a.b.im b.a b.c b.b.im c.a c.c c.b.im)*(Rat.divInt (-1) 2))).toList (.s (.agg (ks 0 4))) (fun _ _ _ H=>fTimes (mn3 a.a a.c a.b.im b.a b.c b.b.im c.a c.c c.b.im) (Rat.divInt (-1) 2) (Nat.le_trans (Nat.add_le_add k3 (by decide:ht (Rat.divInt (-1) (2))≤4)) (by decide))) ?_
 refine RunD.cV (fC ((-(mn3 a.a a.c a.b.re b.a b.c b.b.re c.a c.c c.b.re))*(Rat.divInt (-1) 2))).toList (.s (.agg (ks 0 4))) (fun _ _ _ H=>fTimes (-(mn3 a.a a.c a.b.re b.a b.c b.b.re c.a c.c c.b.re)) (Rat.divInt (-1) 2) (Nat.le_trans (Nat.add_le_add k5 (by decide:ht (Rat.divInt (-1) (2))≤4)) (by decide))) ?_
 refine RunD.en ?_
 refine Run.dr ?_
 refine RunD.cV (ciC (b.plus c)).toList (.s (.agg (ks 0 16))) (fun _ _ _ H=>rdPlus b c (Nat.le_trans (Nat.add_le_add (Nat.add_le_add (Nat.add_le_add (Nat.add_le_add eab ebb.1) ebb.2) ecb) (Nat.add_le_add (Nat.add_le_add (Nat.add_le_add eac ebc.1) ebc.2) ecc)) (by decide))) ?_
 refine RunD.cV (ciC (a.plus (b.plus c))).toList (.s (.agg (ks 0 16))) (fun _ _ _ H=>rdPlus a (b.plus c) (by omega)) ?_
 refine RunD.en ?_
 refine Run.dr ?_
 refine RunD.cV (ciC ((a.plus (b.plus c)).plus (Ci.rdV a b c))).toList (.s (.agg (ks 0 16))) (fun _ _ _ H=>rdPlus (a.plus (b.plus c)) (Ci.rdV a b c) (by omega)) ?_
 refine RunD.cV (ciC ((Ci.rdV a b c).out)).toList (.s (.agg (ks 0 16))) (fun _ _ _ H=>rdOut (Ci.rdV a b c)) ?_
 refine RunD.cV (ciC ((a.plus (b.plus c)).plus ((Ci.rdV a b c).out))).toList (.s (.agg (ks 0 16))) (fun _ _ _ H=>rdPlus (a.plus (b.plus c)) ((Ci.rdV a b c).out) (by omega)) ?_
 refine RunD.en ?_
 refine Run.cV [.bool (((a.plus (b.plus c)).plus ((Ci.rdV a b c).out)).ahd ((a.plus (b.plus c)).plus (Ci.rdV a b c)))] kb (fun _ _ _ H=>rdFst ((a.plus (b.plus c)).plus ((Ci.rdV a b c).out)) ((a.plus (b.plus c)).plus (Ci.rdV a b c)) (by omega) (by omega)) ?_
 refine (Bool.eq_false_or_eq_true (((a.plus (b.plus c)).plus ((Ci.rdV a b c).out)).ahd ((a.plus (b.plus c)).plus (Ci.rdV a b c)))).elim (fun c1=>?_) (fun c1=>?_)
 · refine Run.kn c1 ?_
   refine Run.dr ?_
   refine RunD.en ?_
   exact Run.rV (rd4_1 c1)
 · refine Run.kn c1 ?_
   refine Run.dr ?_
   refine RunD.en ?_
   exact Run.rV (rd4_0 c1)
theorem rdAll3 {b0:Nat} (T0:TypeId) (d0:Ci) (d1:Ci) (d2:Ci) (B0:W.heap[b0]? = some (.cells (⟨(ciC d0).toList++((ciC d1).toList++((ciC d2).toList))⟩) T0 (0,0))) (p0:ht d0.a+ht d0.b.re+ht d0.b.im+ht d0.c≤5000000) (p1:ht d1.a+ht d1.b.re+ht d1.b.im+ht d1.c≤5000000) (p2:ht d2.a+ht d2.b.re+ht d2.b.im+ht d2.c≤5000000):Calls Tryz.prog 19 #[.slice (some ⟨b0,0,none⟩) 3 3] W (RetV (.bool (Ci.all3 d0 d1 d2)) W):=by
 refine Run.goP (S:=Z0) (Pack.nil.b B0 (some 3) 48) Tryz.func19 rfl ?_
 refine (Bool.eq_false_or_eq_true (d1.touch d0)).elim (fun c1=>?_) (fun c1=>?_)
 · refine Run.dr ?_
   refine RunD.cV [] (cb true) (fun _ _ _ H=>rdTouch d1 d0 p1 p0) ?_ (hV:=fun _ _=>congrArg Value.bool c1)
   refine RunD.en ?_
   refine (Bool.eq_false_or_eq_true (d2.touch d0)).elim (fun c2=>?_) (fun c2=>?_)
   · refine Run.dr ?_
     refine RunD.cV [] (cb true) (fun _ _ _ H=>rdTouch d2 d0 p2 p0) ?_ (hV:=fun _ _=>congrArg Value.bool c2)
     refine RunD.en ?_
     refine (Bool.eq_false_or_eq_true (d2.touch d1)).elim (fun c3=>?_) (fun c3=>?_)
     · refine Run.dr ?_
       refine RunD.cV [] (cb true) (fun _ _ _ H=>rdTouch d2 d1 p2 p1) ?_ (hV:=fun _ _=>congrArg Value.bool c3)
       refine RunD.en ?_
       exact Run.rV (V' := .bool true) ((congrArg Value.bool (by simp [Ci.all3,c1,c2,c3])))
     · refine Run.dr ?_
       refine RunD.cV [] (cb false) (fun _ _ _ H=>rdTouch d2 d1 p2 p1) ?_ (hV:=fun _ _=>congrArg Value.bool c3)
       refine RunD.en ?_
       exact Run.rV (V' := .bool false) ((congrArg Value.bool (by simp [Ci.all3,c1,c2,c3])))
   · refine Run.dr ?_
     refine RunD.cV [] (cb false) (fun _ _ _ H=>rdTouch d2 d0 p2 p0) ?_ (hV:=fun _ _=>congrArg Value.bool c2)
     refine RunD.en ?_
     exact Run.rV (V' := .bool false) ((congrArg Value.bool (by simp [Ci.all3,c1,c2])))
 · refine Run.dr ?_
   refine RunD.cV [] (cb false) (fun _ _ _ H=>rdTouch d1 d0 p1 p0) ?_ (hV:=fun _ _=>congrArg Value.bool c1)
   refine RunD.en ?_
   exact Run.rV (V' := .bool false) ((congrArg Value.bool (by simp [Ci.all3,c1])))
theorem prY (a:Ci) (b:Ci) (p0:dsOk (rci a)=true) (p1:dsOk (rci b)=true):Calls Tryz.prog 83 #[ciV a,ciV b] W (RetV (.tuple #[rfV (fcut (a.dot b)),.int .i64 (ferr (a.dot b))]) W):=by
 have f0:=cifits_ht (dsOk_c p0).1
 have f1:=cifits_ht (dsOk_c p1).1
 have h1:=dot_ht a b
 refine Run.goP (S:=Z0) ((Pack.nil.k (ciV a) (ciC a).toList (.s (.agg (ks 0 16)))).k (ciV b) (ciC b).toList (.s (.agg (ks 0 16)))) Tryz.func83 rfl ?_
 refine Run.cB (n:=2) (T:=180) (φs:=ringF [a,b]) (fun _ _ _ H=>pl2Y 29 a b (H.b 3) p0 p1) (fun cp1=>?_)
 refine Run.dr ?_
 refine RunD.cR spRat (fun _ _ _ H=>dsBy a b (RingP.mk (H.f 0) (H.f 1) (H.f 2) (H.f 3)) (RingP.mk (H.f 4) (H.f 5) (H.f 6) (H.f 7)) (by omega)) ?_
 refine RunD.cV ((rfC (fcut (a.dot b))).toList++[.int .i64 (ferr (a.dot b))]) (.tup [.agg (ks 0 4),.o (.k 4)]) (fun _ _ _ H=>eFrac (a.dot b) (RatP.n (H.f 8)) (by omega)) ?_
 refine RunD.en ?_
 exact Run.rV rfl
theorem l20num (n:Int):Calls Tryz.prog 20 #[.int .i64 n] W (RetV (.int .i64 n) W):=by
 refine Run.goP (S:=Z0) (Pack.nil.k (.int .i64 n) [.int .i64 n] kb) Tryz.func20 rfl ?_
 exact Run.rV rfl
theorem l20in (n:Int) (re:Int) (im:Int) (co:Int) (p0:-9223372036854775808≤n∧n≤9223372036854775807) (p1:-9223372036854775808≤re∧re≤9223372036854775807) (p2:-9223372036854775808≤im∧im≤9223372036854775807) (p3:-9223372036854775808≤co∧co≤9223372036854775807):Calls Tryz.prog 108 #[.int .i64 n,.int .i64 re,.int .i64 im,.int .i64 co] W (RetV (ciV (Ci.in4 n re im co)) W):=by
 refine Run.goP (S:=Z0) ((((Pack.nil.k (.int .i64 n) [.int .i64 n] kb).k (.int .i64 re) [.int .i64 re] kb).k (.int .i64 im) [.int .i64 im] kb).k (.int .i64 co) [.int .i64 co] kb) Tryz.func108 rfl ?_
 refine Run.cV (fC (n:Rat)).toList (.s (.agg (ks 0 4))) (fun _ _ _ H=>fInt n (by omega) (by omega)) ?_
 refine Run.cV (gC (Cx.ofInt re im)).toList (.s (.agg (ks 0 8))) (fun _ _ _ H=>cInt re im (by omega) (by omega) (by omega) (by omega)) ?_
 refine Run.cV (fC (co:Rat)).toList (.s (.agg (ks 0 4))) (fun _ _ _ H=>fInt co (by omega) (by omega)) ?_
 exact Run.rV (rfl)
end Go.Proofs.YtcpjdjnaipbieaaGreat
namespace Go.Proofs.YtcpjdjnaipbieaaGreat
open Go.RowKit Rgn Eng
def lg6 (r:RW):Bool:=decide (60<(r.s.size:Int))&&decide ((r.s.size:Int)≤1024)
def lgD (r:RF):Bool:=lg6 r.a||lg6 r.b
def lgE (r:RG):Bool:=lgD r.re||lgD r.im
def lgK (c:RCi):Bool:=lgD c.a||lgE c.b||lgD c.c
theorem in4_fits {n re im co:Int} (h1:ht (n:Rat)≤100) (h2:ht (re:Rat)≤100) (h3:ht (im:Rat)≤100) (h4:ht (co:Rat)≤100):cifits (rci (Ci.in4 n re im co))=true:=by
 show (fits (rf (n:Rat))&&gfits (rg (Cx.ofInt re im))&&fits (rf (co:Rat)))=true
 rw [fits_ht (by omega),fits_ht (by omega),gfits_ht (z:=Cx.ofInt re im) ⟨by show ht (re:Rat)≤_;omega,by show ht (im:Rat)≤_;omega⟩];rfl
theorem okO:dsOk (rci (Ci.in4 (-1) 0 0 1))=true:=dsOk_yes (in4_fits (by decide) (by decide) (by decide) (by decide)) (by decide +kernel)
theorem okA:dsOk (rci (Ci.in4 2 1 0 0))=true:=dsOk_yes (in4_fits (by decide) (by decide) (by decide) (by decide)) (by decide +kernel)
theorem okB:dsOk (rci (Ci.in4 2 (-1) 0 0))=true:=dsOk_yes (in4_fits (by decide) (by decide) (by decide) (by decide)) (by decide +kernel)
theorem okC:dsOk (rci (Ci.in4 3 0 2 1))=true:=dsOk_yes (in4_fits (by decide) (by decide) (by decide) (by decide)) (by decide +kernel)
theorem ok_e {c:Ci} (h:cifits (rci c)=true):cierr c=0:=by unfold cierr;rw [if_pos h]
theorem ok_r {c:Ci} (h:cifits (rci c)=true):cicut c=rci c:=by unfold cicut;rw [if_pos h]
variable {W:World}
theorem wkPr (a b:Ci) (p0:a=Ci.in4 2 1 0 0) (p1:b=Ci.in4 2 (-1) 0 0):Calls Tryz.prog 83 #[ciV a,ciV b] W (RetV (.tuple #[fV (1:Rat),.int .i64 0]) W):=by
 subst p0;subst p1
 have e:(Ci.in4 2 1 0 0).dot (Ci.in4 2 (-1) 0 0)=1:=by decide +kernel
 have f:fits (rf (1:Rat))=true:=fits_ht (by decide)
 refine reV ?_ (prY _ _ okA okB)
 rw [e];unfold fcut ferr;rw [if_pos f,if_pos f]
theorem wkFo (a b c:Ci) (p0:a=Ci.in4 (-1) 0 0 1) (p1:b=Ci.in4 2 1 0 0) (p2:c=Ci.in4 2 (-1) 0 0):Calls Tryz.prog 17 #[ciV a,ciV b,ciV c] W (RetV (.tuple #[ciV (Ci.in4 3 0 (-2) 1),ciV (Ci.in4 3 0 2 1),.int .i64 0]) W):=by
 subst p0;subst p1;subst p2
 have e1:Ci.f4p (Ci.in4 (-1) 0 0 1) (Ci.in4 2 1 0 0) (Ci.in4 2 (-1) 0 0)=Ci.in4 3 0 (-2) 1:=by decide +kernel
 have e2:Ci.f4q (Ci.in4 (-1) 0 0 1) (Ci.in4 2 1 0 0) (Ci.in4 2 (-1) 0 0)=Ci.in4 3 0 2 1:=by decide +kernel
 have f1:cifits (rci (Ci.in4 3 0 (-2) 1))=true:=in4_fits (by decide) (by decide) (by decide) (by decide)
 have f2:cifits (rci (Ci.in4 3 0 2 1))=true:=in4_fits (by decide) (by decide) (by decide) (by decide)
 have g:¬ Ci.f4b (Ci.in4 (-1) 0 0 1) (Ci.in4 2 1 0 0) (Ci.in4 2 (-1) 0 0)=true:=by unfold Ci.f4b;rw [e1,e2,ok_e f1,ok_e f2];decide
 refine reV ?_ (fo4 _ _ _ okO okA okB (by decide +kernel))
 unfold Ci.f4P Ci.f4Q Ci.f4E;rw [if_neg g,if_neg g,if_neg g,e1,e2,ok_r f1,ok_r f2]
theorem wkSw (d0 d1 d2 d3:Ci) (p0:d0=Ci.in4 (-1) 0 0 1) (p1:d1=Ci.in4 2 1 0 0) (p2:d2=Ci.in4 2 (-1) 0 0) (p3:d3=Ci.in4 3 0 2 1):Calls Tryz.prog 43 #[.agg ⟨(ciC d0).toList++(ciC d1).toList++(ciC d2).toList++(ciC d3).toList⟩,.int .i64 0] W (RetV (.tuple #[.agg ⟨(ciC (Ci.in4 15 0 4 1)).toList++(ciC d1).toList++(ciC d2).toList++(ciC d3).toList⟩,.int .i64 0]) W):=by
 subst p0;subst p1;subst p2;subst p3
 have e:Ci.swp (Ci.in4 (-1) 0 0 1) (Ci.in4 2 1 0 0) (Ci.in4 2 (-1) 0 0) (Ci.in4 3 0 2 1) (Ci.in4 (-1) 0 0 1)=Ci.in4 15 0 4 1:=by decide +kernel
 have f:cifits (rci (Ci.in4 15 0 4 1))=true:=in4_fits (by decide) (by decide) (by decide) (by decide)
 refine reV ?_ (sw0Y _ _ _ _ okO okA okB okC (by decide +kernel) (by rw [e,ok_e f];rfl))
 rw [e,ok_r f]
end Go.Proofs.YtcpjdjnaipbieaaGreat
namespace Go.Proofs.YtcpjdjnaipbieaaGreat
open Go.RowKit Rgn Eng
set_option maxHeartbeats 4000000
set_option maxRecDepth 100000
variable {S:Nat→Prop} {W:World}
theorem l20longF (r:RF):Calls Tryz.prog 67 #[rfV r] W (RetV (.bool (lgD r)) W):=by
 refine Run.goP (S:=Z0) (Pack.nil.k (rfV r) (rfC r).toList (.s (.agg (ks 0 4)))) Tryz.func67 rfl ?_
 refine Run.sl r.a.s 9 Tryz.underlying9 ?_
 rcases Bool.eq_false_or_eq_true (decide (60<((r.a.s.size:Nat):Int))) with c0|c0
 · refine Run.ik .gtr ((r.a.s.size:Nat):Int) 60 true (congrArg some c0) ?_
   refine Run.sl r.a.s 9 Tryz.underlying9 ?_
   rcases Bool.eq_false_or_eq_true (decide (((r.a.s.size:Nat):Int)≤1024)) with c1|c1
   · refine Run.ik .leq ((r.a.s.size:Nat):Int) 1024 true (congrArg some c1) ?_
     exact Run.rV (show Value.bool true=.bool (lgD r) by unfold lgD lg6;rw [c0,c1];rfl)
   · refine Run.ik .leq ((r.a.s.size:Nat):Int) 1024 false (congrArg some c1) ?_
     refine Run.sl r.b.s 9 Tryz.underlying9 ?_
     rcases Bool.eq_false_or_eq_true (decide (60<((r.b.s.size:Nat):Int))) with c2|c2
     · refine Run.ik .gtr ((r.b.s.size:Nat):Int) 60 true (congrArg some c2) ?_
       refine Run.sl r.b.s 9 Tryz.underlying9 ?_
       rcases Bool.eq_false_or_eq_true (decide (((r.b.s.size:Nat):Int)≤1024)) with c3|c3
       · refine Run.ik .leq ((r.b.s.size:Nat):Int) 1024 true (congrArg some c3) ?_
         exact Run.rV (show Value.bool true=.bool (lgD r) by unfold lgD lg6;rw [c0,c1,c2,c3];rfl)
       · refine Run.ik .leq ((r.b.s.size:Nat):Int) 1024 false (congrArg some c3) ?_
         exact Run.rV (show Value.bool false=.bool (lgD r) by unfold lgD lg6;rw [c0,c1,c2,c3];rfl)
     · refine Run.ik .gtr ((r.b.s.size:Nat):Int) 60 false (congrArg some c2) ?_
       exact Run.rV (show Value.bool false=.bool (lgD r) by unfold lgD lg6;rw [c0,c1,c2];rfl)
 · refine Run.ik .gtr ((r.a.s.size:Nat):Int) 60 false (congrArg some c0) ?_
   refine Run.sl r.b.s 9 Tryz.underlying9 ?_
   rcases Bool.eq_false_or_eq_true (decide (60<((r.b.s.size:Nat):Int))) with c4|c4
   · refine Run.ik .gtr ((r.b.s.size:Nat):Int) 60 true (congrArg some c4) ?_
     refine Run.sl r.b.s 9 Tryz.underlying9 ?_
     rcases Bool.eq_false_or_eq_true (decide (((r.b.s.size:Nat):Int)≤1024)) with c5|c5
     · refine Run.ik .leq ((r.b.s.size:Nat):Int) 1024 true (congrArg some c5) ?_
       exact Run.rV (show Value.bool true=.bool (lgD r) by unfold lgD lg6;rw [c0,c4,c5];rfl)
     · refine Run.ik .leq ((r.b.s.size:Nat):Int) 1024 false (congrArg some c5) ?_
       exact Run.rV (show Value.bool false=.bool (lgD r) by unfold lgD lg6;rw [c0,c4,c5];rfl)
   · refine Run.ik .gtr ((r.b.s.size:Nat):Int) 60 false (congrArg some c4) ?_
     exact Run.rV (show Value.bool false=.bool (lgD r) by unfold lgD lg6;rw [c0,c4];rfl)
end Go.Proofs.YtcpjdjnaipbieaaGreat
namespace Go.Proofs.YtcpjdjnaipbieaaGreat
open Go.RowKit Rgn Eng
set_option maxHeartbeats 8000000
set_option maxRecDepth 100000
variable {S:Nat→Prop} {W:World}
theorem l20long1 {b0:Nat} (T0:TypeId) (a:RG) (B0:W.heap[b0]? = some (.cells (⟨(rgC a).toList⟩) T0 (0,0))):Calls Tryz.prog 66 #[.slice (some ⟨b0,0,none⟩) 1 1] W (RetV (.bool (lgE a)) W):=by
 refine Run.goP (S:=Z0) (Pack.nil.b B0 (some 1) 8) Tryz.func66 rfl ?_
 refine Run.cV [.bool (lgD a.re)] kb (fun _ _ _ H=>l20longF a.re) ?_
 refine (Bool.eq_false_or_eq_true (lgD a.re)).elim (fun c1=>?_) (fun c1=>?_)
 · refine Run.kn c1 ?_
   exact Run.rV (V' := .bool true) ((congrArg Value.bool (by simp [lgE,c1])))
 · refine Run.kn c1 ?_
   refine Run.cV [.bool (lgD a.im)] kb (fun _ _ _ H=>l20longF a.im) ?_
   refine (Bool.eq_false_or_eq_true (lgD a.im)).elim (fun c2=>?_) (fun c2=>?_)
   · refine Run.kn c2 ?_
     exact Run.rV (V' := .bool true) ((congrArg Value.bool (by simp [lgE,c1,c2])))
   · refine Run.kn c2 ?_
     exact Run.rV (V' := .bool false) ((congrArg Value.bool (by simp [lgE,c1,c2])))
theorem l20far3 {b0:Nat} (T0:TypeId) (a:RCi) (b:RCi) (c:RCi) (B0:W.heap[b0]? = some (.cells (⟨(rciC a).toList++((rciC b).toList++((rciC c).toList))⟩) T0 (0,0))):Calls Tryz.prog 15 #[.slice (some ⟨b0,0,none⟩) 3 3] W (RetV (.bool (lgK a||lgK b||lgK c)) W):=by
 refine Run.goP (S:=Z0) (Pack.nil.b B0 (some 3) 48) Tryz.func15 rfl ?_
 refine Run.cV [.bool (lgD a.a)] kb (fun _ _ _ H=>l20longF a.a) ?_
 refine (Bool.eq_false_or_eq_true (lgD a.a)).elim (fun c1=>?_) (fun c1=>?_)
 · refine Run.kn c1 ?_
   exact Run.rV (V' := .bool true) ((congrArg Value.bool (by simp [lgK,c1])))
 · refine Run.kn c1 ?_
   refine Run.cV [.bool (lgE a.b)] kb (fun _ _ _ H=>l20long1 27 a.b (H.b 1)) ?_
   refine (Bool.eq_false_or_eq_true (lgE a.b)).elim (fun c2=>?_) (fun c2=>?_)
   · refine Run.kn c2 ?_
     exact Run.rV (V' := .bool true) ((congrArg Value.bool (by simp [lgK,c1,c2])))
   · refine Run.kn c2 ?_
     refine Run.cV [.bool (lgD a.c)] kb (fun _ _ _ H=>l20longF a.c) ?_
     refine (Bool.eq_false_or_eq_true (lgD a.c)).elim (fun c3=>?_) (fun c3=>?_)
     · refine Run.kn c3 ?_
       exact Run.rV (V' := .bool true) ((congrArg Value.bool (by simp [lgK,c1,c2,c3])))
     · refine Run.kn c3 ?_
       refine Run.cV [.bool (lgD b.a)] kb (fun _ _ _ H=>l20longF b.a) ?_
       refine (Bool.eq_false_or_eq_true (lgD b.a)).elim (fun c4=>?_) (fun c4=>?_)
       · refine Run.kn c4 ?_
         exact Run.rV (V' := .bool true) ((congrArg Value.bool (by simp [lgK,c1,c2,c3,c4])))
       · refine Run.kn c4 ?_
         refine Run.cV [.bool (lgE b.b)] kb (fun _ _ _ H=>l20long1 27 b.b (H.b 2)) ?_
         refine (Bool.eq_false_or_eq_true (lgE b.b)).elim (fun c5=>?_) (fun c5=>?_)
         · refine Run.kn c5 ?_
           exact Run.rV (V' := .bool true) ((congrArg Value.bool (by simp [lgK,c1,c2,c3,c4,c5])))
         · refine Run.kn c5 ?_
           refine Run.cV [.bool (lgD b.c)] kb (fun _ _ _ H=>l20longF b.c) ?_
           refine (Bool.eq_false_or_eq_true (lgD b.c)).elim (fun c6=>?_) (fun c6=>?_)
           · refine Run.kn c6 ?_
             exact Run.rV (V' := .bool true) ((congrArg Value.bool (by simp [lgK,c1,c2,c3,c4,c5,c6])))
           · refine Run.kn c6 ?_
             refine Run.cV [.bool (lgD c.a)] kb (fun _ _ _ H=>l20longF c.a) ?_
             refine (Bool.eq_false_or_eq_true (lgD c.a)).elim (fun c7=>?_) (fun c7=>?_)
             · refine Run.kn c7 ?_
               exact Run.rV (V' := .bool true) ((congrArg Value.bool (by simp [lgK,c1,c2,c3,c4,c5,c6,c7])))
             · refine Run.kn c7 ?_
               refine Run.cV [.bool (lgE c.b)] kb (fun _ _ _ H=>l20long1 27 c.b (H.b 3)) ?_
               refine (Bool.eq_false_or_eq_true (lgE c.b)).elim (fun c8=>?_) (fun c8=>?_)
               · refine Run.kn c8 ?_
                 exact Run.rV (V' := .bool true) ((congrArg Value.bool (by simp [lgK,c1,c2,c3,c4,c5,c6,c7,c8])))
               · refine Run.kn c8 ?_
                 refine Run.cV [.bool (lgD c.c)] kb (fun _ _ _ H=>l20longF c.c) ?_
                 refine (Bool.eq_false_or_eq_true (lgD c.c)).elim (fun c9=>?_) (fun c9=>?_)
                 · refine Run.kn c9 ?_
                   exact Run.rV (V' := .bool true) ((congrArg Value.bool (by simp [lgK,c1,c2,c3,c4,c5,c6,c7,c8,c9])))
                 · refine Run.kn c9 ?_
                   exact Run.rV (V' := .bool false) ((congrArg Value.bool (by simp [lgK,c1,c2,c3,c4,c5,c6,c7,c8,c9])))
theorem l20works  : Calls Tryz.prog 16 #[] W (RetV (.bool true) W):=by
 refine Run.goP (S:=Z0) Pack.nil Tryz.func16 rfl ?_
 refine Run.cV (ciC (Ci.in4 (-1) 0 0 1)).toList (.s (.agg (ks 0 16))) (fun _ _ _ H=>l20in (-1) 0 0 1 (by first|omega|rfl) (by first|omega|rfl) (by first|omega|rfl) (by first|omega|rfl)) ?_
 refine Run.cV (ciC (Ci.in4 2 1 0 0)).toList (.s (.agg (ks 0 16))) (fun _ _ _ H=>l20in 2 1 0 0 (by first|omega|rfl) (by first|omega|rfl) (by first|omega|rfl) (by first|omega|rfl)) ?_
 refine Run.cV (ciC (Ci.in4 2 (-1) 0 0)).toList (.s (.agg (ks 0 16))) (fun _ _ _ H=>l20in 2 (-1) 0 0 (by first|omega|rfl) (by first|omega|rfl) (by first|omega|rfl) (by first|omega|rfl)) ?_
 refine Run.cV (ciC (Ci.in4 3 0 2 1)).toList (.s (.agg (ks 0 16))) (fun _ _ _ H=>l20in 3 0 2 1 (by first|omega|rfl) (by first|omega|rfl) (by first|omega|rfl) (by first|omega|rfl)) ?_
 refine Run.cV (fC (1:Rat)).toList (.tup [.agg (ks 0 4),.o (.c (.int .i64 0))]) (fun _ _ _ H=>wkPr (Ci.in4 2 1 0 0) (Ci.in4 2 (-1) 0 0) (by first|omega|rfl) (by first|omega|rfl)) ?_
 refine Run.cV ((ciC (Ci.in4 3 0 (-2) 1)).toList++(ciC (Ci.in4 3 0 2 1)).toList) (.tup [.agg (ks 0 16),.agg (ks 16 16),.o (.c (.int .i64 0))]) (fun _ _ _ H=>wkFo (Ci.in4 (-1) 0 0 1) (Ci.in4 2 1 0 0) (Ci.in4 2 (-1) 0 0) (by first|omega|rfl) (by first|omega|rfl) (by first|omega|rfl)) ?_
 refine Run.cV ((ciC (Ci.in4 15 0 4 1)).toList++(ciC (Ci.in4 2 1 0 0)).toList++(ciC (Ci.in4 2 (-1) 0 0)).toList++(ciC (Ci.in4 3 0 2 1)).toList) (.tup [.agg (ks 0 64),.o (.c (.int .i64 0))]) (fun _ _ _ H=>wkSw (Ci.in4 (-1) 0 0 1) (Ci.in4 2 1 0 0) (Ci.in4 2 (-1) 0 0) (Ci.in4 3 0 2 1) (by first|omega|rfl) (by first|omega|rfl) (by first|omega|rfl) (by first|omega|rfl)) ?_
 refine Run.dr ?_
 refine RunD.cV [] (.s (.o (.c (.int .i64 0)))) (fun _ _ _ H=>l20num 0) ?_
 refine RunD.cV (fC (1:Rat)).toList (.s (.agg (ks 0 4))) (fun _ _ _ H=>fInt 1 (by decide) (by decide)) ?_
 refine RunD.bi [] (cb true) (fun _ _ _ o1 o2 _ ho hx hy=>ex_eql_frac (r:=(rf (1:Rat))) (q:=(rf (1:Rat))) o1 o2 ho hx hy ((rf_dec (1:Rat) (1:Rat)).trans (decide_eq_true rfl))) ?_
 refine RunD.cV [] (.s (.o (.c (.int .i64 0)))) (fun _ _ _ H=>l20num 0) ?_
 refine RunD.cV (ciC (Ci.in4 3 0 (-2) 1)).toList (.s (.agg (ks 0 16))) (fun _ _ _ H=>l20in 3 0 (-2) 1 (by first|omega|rfl) (by first|omega|rfl) (by first|omega|rfl) (by first|omega|rfl)) ?_
 refine RunD.bi [] (cb true) (fun _ _ _ o1 o2 _ ho hx hy=>ex_eql_dk (r:=(rci (Ci.in4 3 0 (-2) 1))) (q:=(rci (Ci.in4 3 0 (-2) 1))) o1 o2 ho hx hy ((rci_dec (Ci.in4 3 0 (-2) 1) (Ci.in4 3 0 (-2) 1)).trans (decide_eq_true rfl))) ?_
 refine RunD.bi [] (cb true) (fun _ _ _ o1 o2 _ ho hx hy=>ex_eql_dk (r:=(rci (Ci.in4 3 0 2 1))) (q:=(rci (Ci.in4 3 0 2 1))) o1 o2 ho hx hy ((rci_dec (Ci.in4 3 0 2 1) (Ci.in4 3 0 2 1)).trans (decide_eq_true rfl))) ?_
 refine RunD.cV [] (.s (.o (.c (.int .i64 0)))) (fun _ _ _ H=>l20num 0) ?_
 refine RunD.cV (ciC (Ci.in4 15 0 4 1)).toList (.s (.agg (ks 0 16))) (fun _ _ _ H=>l20in 15 0 4 1 (by first|omega|rfl) (by first|omega|rfl) (by first|omega|rfl) (by first|omega|rfl)) ?_
 refine RunD.bi [] (cb true) (fun _ _ _ o1 o2 _ ho hx hy=>ex_eql_dk (r:=(rci (Ci.in4 15 0 4 1))) (q:=(rci (Ci.in4 15 0 4 1))) o1 o2 ho hx hy ((rci_dec (Ci.in4 15 0 4 1) (Ci.in4 15 0 4 1)).trans (decide_eq_true rfl))) ?_
 refine RunD.en ?_
 exact Run.rV rfl
end Go.Proofs.YtcpjdjnaipbieaaGreat
namespace Go.Proofs.YtcpjdjnaipbieaaGreat
open Go.RowKit Rgn Eng
section
variable {a b c:Ci}
theorem er_t {x:Ci} (h:cifits (rci x)=true):(cierr x != 0)=false:=by rw [ok_e h];rfl
theorem er_f {x:Ci} (h:cifits (rci x)=false):(cierr x != 0)=true:=by unfold cierr;rw [if_neg (by rw [h];decide)];rfl
theorem f4_g (h1:cifits (rci (Ci.f4p a b c))=true) (h2:cifits (rci (Ci.f4q a b c))=true):¬ Ci.f4b a b c=true:=by
 unfold Ci.f4b;rw [er_t h1,er_t h2];decide
theorem f4_P (h1:cifits (rci (Ci.f4p a b c))=true) (h2:cifits (rci (Ci.f4q a b c))=true):decide (Ci.f4P a b c=rci (Ci.f4p a b c))=true:=by
 unfold Ci.f4P;rw [if_neg (f4_g h1 h2),ok_r h1];exact decide_eq_true rfl
theorem f4_Q (h1:cifits (rci (Ci.f4p a b c))=true) (h2:cifits (rci (Ci.f4q a b c))=true):decide (Ci.f4Q a b c=rci (Ci.f4q a b c))=true:=by
 unfold Ci.f4Q;rw [if_neg (f4_g h1 h2),ok_r h2];exact decide_eq_true rfl
theorem f4_0 (h1:cifits (rci (Ci.f4p a b c))=true) (h2:cifits (rci (Ci.f4q a b c))=true):(Ci.f4E a b c == 0)=true:=by
 unfold Ci.f4E;rw [if_neg (f4_g h1 h2)];rfl
theorem f4_n6 (h1:cifits (rci (Ci.f4p a b c))=false):Ci.f4b a b c=true:=by unfold Ci.f4b;rw [er_f h1];rfl
theorem f4_n7 (_h:cifits (rci (Ci.f4p a b c))=true) (h1:cifits (rci (Ci.f4q a b c))=false):Ci.f4b a b c=true:=by unfold Ci.f4b;rw [er_f h1,Bool.or_true]
theorem f4_zP (h:Ci.f4b a b c=true):decide (Ci.f4P a b c=rzCi)=true:=by unfold Ci.f4P;rw [if_pos h];exact decide_eq_true rfl
theorem f4_zQ (h:Ci.f4b a b c=true):decide (Ci.f4Q a b c=rzCi)=true:=by unfold Ci.f4Q;rw [if_pos h];exact decide_eq_true rfl
theorem f4_z4 (h:Ci.f4b a b c=true):(Ci.f4E a b c == 4)=true:=by unfold Ci.f4E;rw [if_pos h];rfl
end
end Go.Proofs.YtcpjdjnaipbieaaGreat
namespace Go.Proofs.YtcpjdjnaipbieaaGreat
open Go.RowKit Rgn Eng
set_option maxHeartbeats 8000000
set_option maxRecDepth 100000
variable {S:Nat→Prop} {W:World}
theorem lDf0 (a:RCi) (b:RCi) (c:RCi) (p0:(lgK a||lgK b||lgK c)=true):Calls Tryz.prog 3 #[rciV a,rciV b,rciV c] W (RetV (.bool true) W):=by
 refine Run.goP (S:=Z0) (((Pack.nil.k (rciV a) (rciC a).toList (.s (.agg (ks 0 16)))).k (rciV b) (rciC b).toList (.s (.agg (ks 0 16)))).k (rciV c) (rciC c).toList (.s (.agg (ks 0 16)))) Tryz.func3 rfl ?_
 refine Run.cV [.bool (lgK a||lgK b||lgK c)] kb (fun _ _ _ H=>l20far3 29 a b c (H.b 3)) ?_
 refine Run.kn p0 ?_
 refine Run.cV [] (cb true) (fun _ _ _ H=>l20works) ?_
 exact Run.rV rfl
theorem lDf1 (a:RCi) (b:RCi) (c:RCi) (p0:(lgK a||lgK b||lgK c)=false) (p1:dsOk a=false):Calls Tryz.prog 3 #[rciV a,rciV b,rciV c] W (RetV (.bool true) W):=by
 refine Run.goP (S:=Z0) (((Pack.nil.k (rciV a) (rciC a).toList (.s (.agg (ks 0 16)))).k (rciV b) (rciC b).toList (.s (.agg (ks 0 16)))).k (rciV c) (rciC c).toList (.s (.agg (ks 0 16)))) Tryz.func3 rfl ?_
 refine Run.cV [.bool (lgK a||lgK b||lgK c)] kb (fun _ _ _ H=>l20far3 29 a b c (H.b 3)) ?_
 refine Run.kn p0 ?_
 refine Run.cV ((rciC rzCi).toList++(rciC rzCi).toList) (.tup [.agg (ks 0 16),.agg (ks 16 16),.o (.c (.int .i64 2))]) (fun _ _ _ H=>fo0 a b c p1) ?_
 refine Run.cV [] (.s (.o (.c (.int .i64 2)))) (fun _ _ _ H=>rdChkN a p1) ?_
 refine Run.bi [] (cb true) (fun _ _ _ o1 o2 _ ho hx hy=>ex_eql_dk (r:=rzCi) (q:=rzCi) o1 o2 ho hx hy (decide_eq_true rfl)) ?_
 refine Run.bi [] (cb true) (fun _ _ _ o1 o2 _ ho hx hy=>ex_eql_dk (r:=rzCi) (q:=rzCi) o1 o2 ho hx hy (decide_eq_true rfl)) ?_
 refine Run.cV [] (.s (.o (.c (.int .i64 2)))) (fun _ _ _ H=>l20num 2) ?_
 refine Run.cV [] (cb true) (fun _ _ _ H=>l20works) ?_
 exact Run.rV rfl
theorem lDf2 (a:Ci) (b:RCi) (c:RCi) (p0:(lgK (rci a)||lgK b||lgK c)=false) (p1:dsOk (rci a)=true) (p2:dsOk b=false):Calls Tryz.prog 3 #[ciV a,rciV b,rciV c] W (RetV (.bool true) W):=by
 refine Run.goP (S:=Z0) (((Pack.nil.k (ciV a) (ciC a).toList (.s (.agg (ks 0 16)))).k (rciV b) (rciC b).toList (.s (.agg (ks 0 16)))).k (rciV c) (rciC c).toList (.s (.agg (ks 0 16)))) Tryz.func3 rfl ?_
 refine Run.cV [.bool (lgK (rci a)||lgK b||lgK c)] kb (fun _ _ _ H=>l20far3 29 (rci a) b c (H.b 3)) ?_
 refine Run.kn p0 ?_
 refine Run.cV ((rciC rzCi).toList++(rciC rzCi).toList) (.tup [.agg (ks 0 16),.agg (ks 16 16),.o (.c (.int .i64 2))]) (fun _ _ _ H=>fo1 a b c p1 p2) ?_
 refine Run.cV [] (.s (.o (.c (.int .i64 0)))) (fun _ _ _ H=>rdChkO a p1) ?_
 refine Run.cV [] (.s (.o (.c (.int .i64 2)))) (fun _ _ _ H=>rdChkN b p2) ?_
 refine Run.bi [] (cb true) (fun _ _ _ o1 o2 _ ho hx hy=>ex_eql_dk (r:=rzCi) (q:=rzCi) o1 o2 ho hx hy (decide_eq_true rfl)) ?_
 refine Run.bi [] (cb true) (fun _ _ _ o1 o2 _ ho hx hy=>ex_eql_dk (r:=rzCi) (q:=rzCi) o1 o2 ho hx hy (decide_eq_true rfl)) ?_
 refine Run.cV [] (.s (.o (.c (.int .i64 2)))) (fun _ _ _ H=>l20num 2) ?_
 refine Run.cV [] (cb true) (fun _ _ _ H=>l20works) ?_
 exact Run.rV rfl
theorem lDf3 (a:Ci) (b:Ci) (c:RCi) (p0:(lgK (rci a)||lgK (rci b)||lgK c)=false) (p1:dsOk (rci a)=true) (p2:dsOk (rci b)=true) (p3:dsOk c=false):Calls Tryz.prog 3 #[ciV a,ciV b,rciV c] W (RetV (.bool true) W):=by
 refine Run.goP (S:=Z0) (((Pack.nil.k (ciV a) (ciC a).toList (.s (.agg (ks 0 16)))).k (ciV b) (ciC b).toList (.s (.agg (ks 0 16)))).k (rciV c) (rciC c).toList (.s (.agg (ks 0 16)))) Tryz.func3 rfl ?_
 refine Run.cV [.bool (lgK (rci a)||lgK (rci b)||lgK c)] kb (fun _ _ _ H=>l20far3 29 (rci a) (rci b) c (H.b 3)) ?_
 refine Run.kn p0 ?_
 refine Run.cV ((rciC rzCi).toList++(rciC rzCi).toList) (.tup [.agg (ks 0 16),.agg (ks 16 16),.o (.c (.int .i64 2))]) (fun _ _ _ H=>fo2 a b c p1 p2 p3) ?_
 refine Run.cV [] (.s (.o (.c (.int .i64 0)))) (fun _ _ _ H=>rdChkO a p1) ?_
 refine Run.cV [] (.s (.o (.c (.int .i64 0)))) (fun _ _ _ H=>rdChkO b p2) ?_
 refine Run.cV [] (.s (.o (.c (.int .i64 2)))) (fun _ _ _ H=>rdChkN c p3) ?_
 refine Run.bi [] (cb true) (fun _ _ _ o1 o2 _ ho hx hy=>ex_eql_dk (r:=rzCi) (q:=rzCi) o1 o2 ho hx hy (decide_eq_true rfl)) ?_
 refine Run.bi [] (cb true) (fun _ _ _ o1 o2 _ ho hx hy=>ex_eql_dk (r:=rzCi) (q:=rzCi) o1 o2 ho hx hy (decide_eq_true rfl)) ?_
 refine Run.cV [] (.s (.o (.c (.int .i64 2)))) (fun _ _ _ H=>l20num 2) ?_
 refine Run.cV [] (cb true) (fun _ _ _ H=>l20works) ?_
 exact Run.rV rfl
theorem lDf4 (a:Ci) (b:Ci) (c:Ci) (p0:(lgK (rci a)||lgK (rci b)||lgK (rci c))=false) (p1:dsOk (rci a)=true) (p2:dsOk (rci b)=true) (p3:dsOk (rci c)=true) (p4:Ci.all3 a b c=false):Calls Tryz.prog 3 #[ciV a,ciV b,ciV c] W (RetV (.bool true) W):=by
 have f0:=cifits_ht (dsOk_c p1).1
 have f1:=cifits_ht (dsOk_c p2).1
 have f2:=cifits_ht (dsOk_c p3).1
 refine Run.goP (S:=Z0) (((Pack.nil.k (ciV a) (ciC a).toList (.s (.agg (ks 0 16)))).k (ciV b) (ciC b).toList (.s (.agg (ks 0 16)))).k (ciV c) (ciC c).toList (.s (.agg (ks 0 16)))) Tryz.func3 rfl ?_
 refine Run.cV [.bool (lgK (rci a)||lgK (rci b)||lgK (rci c))] kb (fun _ _ _ H=>l20far3 29 (rci a) (rci b) (rci c) (H.b 3)) ?_
 refine Run.kn p0 ?_
 refine Run.cV ((rciC rzCi).toList++(rciC rzCi).toList) (.tup [.agg (ks 0 16),.agg (ks 16 16),.o (.c (.int .i64 300))]) (fun _ _ _ H=>fo3 a b c p1 p2 p3 p4) ?_
 refine Run.cV [] (.s (.o (.c (.int .i64 0)))) (fun _ _ _ H=>rdChkO a p1) ?_
 refine Run.cV [] (.s (.o (.c (.int .i64 0)))) (fun _ _ _ H=>rdChkO b p2) ?_
 refine Run.cV [] (.s (.o (.c (.int .i64 0)))) (fun _ _ _ H=>rdChkO c p3) ?_
 refine Run.cV [.bool (Ci.all3 a b c)] kb (fun _ _ _ H=>rdAll3 29 a b c (H.b 6) (by omega) (by omega) (by omega)) ?_
 refine Run.kn p4 ?_
 refine Run.bi [] (cb true) (fun _ _ _ o1 o2 _ ho hx hy=>ex_eql_dk (r:=rzCi) (q:=rzCi) o1 o2 ho hx hy (decide_eq_true rfl)) ?_
 refine Run.bi [] (cb true) (fun _ _ _ o1 o2 _ ho hx hy=>ex_eql_dk (r:=rzCi) (q:=rzCi) o1 o2 ho hx hy (decide_eq_true rfl)) ?_
 refine Run.cV [] (.s (.o (.c (.int .i64 300)))) (fun _ _ _ H=>l20num 300) ?_
 refine Run.cV [] (cb true) (fun _ _ _ H=>l20works) ?_
 exact Run.rV rfl
theorem lDf5 (a:Ci) (b:Ci) (c:Ci) (p0:(lgK (rci a)||lgK (rci b)||lgK (rci c))=false) (p1:dsOk (rci a)=true) (p2:dsOk (rci b)=true) (p3:dsOk (rci c)=true) (p4:Ci.all3 a b c=true) (p5:cifits (rci (Ci.f4p a b c))=true) (p6:cifits (rci (Ci.f4q a b c))=true):Calls Tryz.prog 3 #[ciV a,ciV b,ciV c] W (RetV (.bool true) W):=by
 have f0:=cifits_ht (dsOk_c p1).1
 have f1:=cifits_ht (dsOk_c p2).1
 have f2:=cifits_ht (dsOk_c p3).1
 refine Run.goP (S:=Z0) (((Pack.nil.k (ciV a) (ciC a).toList (.s (.agg (ks 0 16)))).k (ciV b) (ciC b).toList (.s (.agg (ks 0 16)))).k (ciV c) (ciC c).toList (.s (.agg (ks 0 16)))) Tryz.func3 rfl ?_
 refine Run.cV [.bool (lgK (rci a)||lgK (rci b)||lgK (rci c))] kb (fun _ _ _ H=>l20far3 29 (rci a) (rci b) (rci c) (H.b 3)) ?_
 refine Run.kn p0 ?_
 refine Run.cV ((rciC (Ci.f4P a b c)).toList++(rciC (Ci.f4Q a b c)).toList++[.int .i64 (Ci.f4E a b c)]) (.tup [.agg (ks 0 16),.agg (ks 16 16),.o (.k 32)]) (fun _ _ _ H=>fo4 a b c p1 p2 p3 p4) ?_
 refine Run.cV [] (.s (.o (.c (.int .i64 0)))) (fun _ _ _ H=>rdChkO a p1) ?_
 refine Run.cV [] (.s (.o (.c (.int .i64 0)))) (fun _ _ _ H=>rdChkO b p2) ?_
 refine Run.cV [] (.s (.o (.c (.int .i64 0)))) (fun _ _ _ H=>rdChkO c p3) ?_
 refine Run.cV [.bool (Ci.all3 a b c)] kb (fun _ _ _ H=>rdAll3 29 a b c (H.b 6) (by omega) (by omega) (by omega)) ?_
 refine Run.kn p4 ?_
 refine Run.cV ((ciC (Ci.f4p a b c)).toList++(ciC (Ci.f4q a b c)).toList) (.tup [.agg (ks 0 16),.agg (ks 16 16)]) (fun _ _ _ H=>rd4 a b c (by omega) (by omega) (by omega)) ?_
 refine Run.cV [.bool (cifits (rci (Ci.f4p a b c)))] kb (fun _ _ _ H=>rdFits (rci (Ci.f4p a b c))) ?_
 refine Run.kn p5 ?_
 refine Run.cV [.bool (cifits (rci (Ci.f4q a b c)))] kb (fun _ _ _ H=>rdFits (rci (Ci.f4q a b c))) ?_
 refine Run.kn p6 ?_
 refine Run.bi [] (cb true) (fun _ _ _ o1 o2 _ ho hx hy=>ex_eql_dk (r:=Ci.f4P a b c) (q:=(rci (Ci.f4p a b c))) o1 o2 ho hx hy (f4_P p5 p6)) ?_
 refine Run.bi [] (cb true) (fun _ _ _ o1 o2 _ ho hx hy=>ex_eql_dk (r:=Ci.f4Q a b c) (q:=(rci (Ci.f4q a b c))) o1 o2 ho hx hy (f4_Q p5 p6)) ?_
 refine Run.cV [.int .i64 (Ci.f4E a b c)] kb (fun _ _ _ H=>l20num (Ci.f4E a b c)) ?_
 refine Run.ic (Ci.f4E a b c) 0 ((Ci.f4E a b c) == 0) ?_
 refine Run.kn (f4_0 p5 p6) ?_
 refine Run.cV [] (cb true) (fun _ _ _ H=>l20works) ?_
 exact Run.rV rfl
theorem lDf6 (a:Ci) (b:Ci) (c:Ci) (p0:(lgK (rci a)||lgK (rci b)||lgK (rci c))=false) (p1:dsOk (rci a)=true) (p2:dsOk (rci b)=true) (p3:dsOk (rci c)=true) (p4:Ci.all3 a b c=true) (p5:cifits (rci (Ci.f4p a b c))=false):Calls Tryz.prog 3 #[ciV a,ciV b,ciV c] W (RetV (.bool true) W):=by
 have f0:=cifits_ht (dsOk_c p1).1
 have f1:=cifits_ht (dsOk_c p2).1
 have f2:=cifits_ht (dsOk_c p3).1
 refine Run.goP (S:=Z0) (((Pack.nil.k (ciV a) (ciC a).toList (.s (.agg (ks 0 16)))).k (ciV b) (ciC b).toList (.s (.agg (ks 0 16)))).k (ciV c) (ciC c).toList (.s (.agg (ks 0 16)))) Tryz.func3 rfl ?_
 refine Run.cV [.bool (lgK (rci a)||lgK (rci b)||lgK (rci c))] kb (fun _ _ _ H=>l20far3 29 (rci a) (rci b) (rci c) (H.b 3)) ?_
 refine Run.kn p0 ?_
 refine Run.cV ((rciC (Ci.f4P a b c)).toList++(rciC (Ci.f4Q a b c)).toList++[.int .i64 (Ci.f4E a b c)]) (.tup [.agg (ks 0 16),.agg (ks 16 16),.o (.k 32)]) (fun _ _ _ H=>fo4 a b c p1 p2 p3 p4) ?_
 refine Run.cV [] (.s (.o (.c (.int .i64 0)))) (fun _ _ _ H=>rdChkO a p1) ?_
 refine Run.cV [] (.s (.o (.c (.int .i64 0)))) (fun _ _ _ H=>rdChkO b p2) ?_
 refine Run.cV [] (.s (.o (.c (.int .i64 0)))) (fun _ _ _ H=>rdChkO c p3) ?_
 refine Run.cV [.bool (Ci.all3 a b c)] kb (fun _ _ _ H=>rdAll3 29 a b c (H.b 6) (by omega) (by omega) (by omega)) ?_
 refine Run.kn p4 ?_
 refine Run.cV ((ciC (Ci.f4p a b c)).toList++(ciC (Ci.f4q a b c)).toList) (.tup [.agg (ks 0 16),.agg (ks 16 16)]) (fun _ _ _ H=>rd4 a b c (by omega) (by omega) (by omega)) ?_
 refine Run.cV [.bool (cifits (rci (Ci.f4p a b c)))] kb (fun _ _ _ H=>rdFits (rci (Ci.f4p a b c))) ?_
 refine Run.kn p5 ?_
 refine Run.bi [] (cb true) (fun _ _ _ o1 o2 _ ho hx hy=>ex_eql_dk (r:=Ci.f4P a b c) (q:=rzCi) o1 o2 ho hx hy (f4_zP (f4_n6 p5))) ?_
 refine Run.bi [] (cb true) (fun _ _ _ o1 o2 _ ho hx hy=>ex_eql_dk (r:=Ci.f4Q a b c) (q:=rzCi) o1 o2 ho hx hy (f4_zQ (f4_n6 p5))) ?_
 refine Run.cV [.int .i64 (Ci.f4E a b c)] kb (fun _ _ _ H=>l20num (Ci.f4E a b c)) ?_
 refine Run.ic (Ci.f4E a b c) 4 ((Ci.f4E a b c) == 4) ?_
 refine Run.kn (f4_z4 (f4_n6 p5)) ?_
 refine Run.cV [] (cb true) (fun _ _ _ H=>l20works) ?_
 exact Run.rV rfl
theorem lDf7 (a:Ci) (b:Ci) (c:Ci) (p0:(lgK (rci a)||lgK (rci b)||lgK (rci c))=false) (p1:dsOk (rci a)=true) (p2:dsOk (rci b)=true) (p3:dsOk (rci c)=true) (p4:Ci.all3 a b c=true) (p5:cifits (rci (Ci.f4p a b c))=true) (p6:cifits (rci (Ci.f4q a b c))=false):Calls Tryz.prog 3 #[ciV a,ciV b,ciV c] W (RetV (.bool true) W):=by
 have f0:=cifits_ht (dsOk_c p1).1
 have f1:=cifits_ht (dsOk_c p2).1
 have f2:=cifits_ht (dsOk_c p3).1
 refine Run.goP (S:=Z0) (((Pack.nil.k (ciV a) (ciC a).toList (.s (.agg (ks 0 16)))).k (ciV b) (ciC b).toList (.s (.agg (ks 0 16)))).k (ciV c) (ciC c).toList (.s (.agg (ks 0 16)))) Tryz.func3 rfl ?_
 refine Run.cV [.bool (lgK (rci a)||lgK (rci b)||lgK (rci c))] kb (fun _ _ _ H=>l20far3 29 (rci a) (rci b) (rci c) (H.b 3)) ?_
 refine Run.kn p0 ?_
 refine Run.cV ((rciC (Ci.f4P a b c)).toList++(rciC (Ci.f4Q a b c)).toList++[.int .i64 (Ci.f4E a b c)]) (.tup [.agg (ks 0 16),.agg (ks 16 16),.o (.k 32)]) (fun _ _ _ H=>fo4 a b c p1 p2 p3 p4) ?_
 refine Run.cV [] (.s (.o (.c (.int .i64 0)))) (fun _ _ _ H=>rdChkO a p1) ?_
 refine Run.cV [] (.s (.o (.c (.int .i64 0)))) (fun _ _ _ H=>rdChkO b p2) ?_
 refine Run.cV [] (.s (.o (.c (.int .i64 0)))) (fun _ _ _ H=>rdChkO c p3) ?_
 refine Run.cV [.bool (Ci.all3 a b c)] kb (fun _ _ _ H=>rdAll3 29 a b c (H.b 6) (by omega) (by omega) (by omega)) ?_
 refine Run.kn p4 ?_
 refine Run.cV ((ciC (Ci.f4p a b c)).toList++(ciC (Ci.f4q a b c)).toList) (.tup [.agg (ks 0 16),.agg (ks 16 16)]) (fun _ _ _ H=>rd4 a b c (by omega) (by omega) (by omega)) ?_
 refine Run.cV [.bool (cifits (rci (Ci.f4p a b c)))] kb (fun _ _ _ H=>rdFits (rci (Ci.f4p a b c))) ?_
 refine Run.kn p5 ?_
 refine Run.cV [.bool (cifits (rci (Ci.f4q a b c)))] kb (fun _ _ _ H=>rdFits (rci (Ci.f4q a b c))) ?_
 refine Run.kn p6 ?_
 refine Run.bi [] (cb true) (fun _ _ _ o1 o2 _ ho hx hy=>ex_eql_dk (r:=Ci.f4P a b c) (q:=rzCi) o1 o2 ho hx hy (f4_zP (f4_n7 p5 p6))) ?_
 refine Run.bi [] (cb true) (fun _ _ _ o1 o2 _ ho hx hy=>ex_eql_dk (r:=Ci.f4Q a b c) (q:=rzCi) o1 o2 ho hx hy (f4_zQ (f4_n7 p5 p6))) ?_
 refine Run.cV [.int .i64 (Ci.f4E a b c)] kb (fun _ _ _ H=>l20num (Ci.f4E a b c)) ?_
 refine Run.ic (Ci.f4E a b c) 4 ((Ci.f4E a b c) == 4) ?_
 refine Run.kn (f4_z4 (f4_n7 p5 p6)) ?_
 refine Run.cV [] (cb true) (fun _ _ _ H=>l20works) ?_
 exact Run.rV rfl
end Go.Proofs.YtcpjdjnaipbieaaGreat
namespace Go.Proofs.YtcpjdjnaipbieaaGreat
open Go.ChangeShapes Go.WideShapes Go.ChangeAt Go.RowKit
theorem list2 {cs:List Value} (h:cs.length=2):∃ a b,cs=[a,b]:=by
 match cs,h with
 | [a,b],_=>exact ⟨a,b,rfl⟩
theorem list4 {cs:List Value} (h:cs.length=4):∃ a b c d,cs=[a,b,c,d]:=by
 match cs,h with
 | [a,b,c,d],_=>exact ⟨a,b,c,d,rfl⟩
theorem list8 {cs:List Value} (h:cs.length=8):∃ a b c d e f g i,cs=[a,b,c,d,e,f,g,i]:=by
 match cs,h with
 | [a,b,c,d,e,f,g,i],_=>exact ⟨a,b,c,d,e,f,g,i,rfl⟩
section
variable {H:Type} {enc:TypeId×Value→H} {w:World} {base:Nat} {spare:Nat→Bool} {held:Bool}
theorem rd_whole {fuel:Nat} {cs:List Value} {x:DataW H×List MemPlace} (h:DataW.trod enc Tryz.prog w base spare held fuel 23 cs=some x):∃ r:RW,cs=(rwC r).toList:=by
 obtain ⟨y0,y1,n,_,hl,h0,h1⟩:=trod_struct2 Tryz.underlying23 h
 obtain ⟨b,e0,_⟩:=DataW.trod_bool Tryz.underlying4 h0
 obtain ⟨s,e1,_,_⟩:=DataW.trod_string Tryz.underlying9 h1
 rw [show Tryz.prog.cellsOf 23=2 by kernel_rfl] at hl
 rw [show Tryz.prog.cellsOf 4=1 by kernel_rfl] at e0
 rw [show Tryz.prog.cellsOf 9=1 by kernel_rfl] at e1
 obtain ⟨u,v,rfl⟩:=list2 hl
 simp only [List.drop_zero,List.take_succ_cons,List.take_zero,List.cons.injEq,and_true] at e0
 simp only [List.drop_succ_cons,List.drop_zero,List.take_succ_cons,List.take_zero,List.cons.injEq,and_true] at e1
 subst e0;subst e1
 exact ⟨⟨b,s⟩,rfl⟩
theorem rd_frac {fuel:Nat} {cs:List Value} {x:DataW H×List MemPlace} (h:DataW.trod enc Tryz.prog w base spare held fuel 25 cs=some x):∃ r:RF,cs=(rfC r).toList:=by
 obtain ⟨y0,y1,n,_,hl,h0,h1⟩:=trod_struct2 Tryz.underlying25 h
 obtain ⟨a,e0⟩:=rd_whole h0
 obtain ⟨b,e1⟩:=rd_whole h1
 rw [show Tryz.prog.cellsOf 25=4 by kernel_rfl] at hl
 rw [show Tryz.prog.cellsOf 23=2 by kernel_rfl] at e0 e1
 obtain ⟨u0,u1,u2,u3,rfl⟩:=list4 hl
 simp only [List.drop_zero,List.drop_succ_cons,List.take_succ_cons,List.take_zero,List.cons.injEq,and_true] at e0 e1
 obtain ⟨rfl,rfl⟩:=e0
 obtain ⟨rfl,rfl⟩:=e1
 exact ⟨⟨a,b⟩,rfl⟩
theorem rd_gauss {fuel:Nat} {cs:List Value} {x:DataW H×List MemPlace} (h:DataW.trod enc Tryz.prog w base spare held fuel 27 cs=some x):∃ r:RG,cs=(rgC r).toList:=by
 obtain ⟨y0,y1,n,_,hl,h0,h1⟩:=trod_struct2 Tryz.underlying27 h
 obtain ⟨a,e0⟩:=rd_frac h0
 obtain ⟨b,e1⟩:=rd_frac h1
 rw [show Tryz.prog.cellsOf 27=8 by kernel_rfl] at hl
 rw [show Tryz.prog.cellsOf 25=4 by kernel_rfl] at e0 e1
 obtain ⟨u0,u1,u2,u3,u4,u5,u6,u7,rfl⟩:=list8 hl
 simp only [List.drop_zero,List.drop_succ_cons,List.take_succ_cons,List.take_zero,List.cons.injEq,and_true] at e0 e1
 obtain ⟨rfl,rfl,rfl,rfl⟩:=e0
 obtain ⟨rfl,rfl,rfl,rfl⟩:=e1
 exact ⟨⟨a,b⟩,rfl⟩
end
section
variable {H:Type} {enc:TypeId×Value→H} {w:World} {base:Nat} {spare:Nat→Bool} {held:Bool}
theorem trod_struct3 {P:Program} {t:TypeId} {f0 f1 f2:Field} {fuel:Nat} {cs:List Value} {x:DataW H×List MemPlace} (ht:P.underlying t=some (.struct #[f0,f1,f2])) (h:DataW.trod enc P w base spare held fuel t cs=some x) :
  ∃ y0 y1 y2 n,cs.length=P.cellsOf t∧DataW.trod enc P w base spare held n f0.type ((cs.drop f0.offset).take (P.cellsOf f0.type))=some y0 ∧
   DataW.trod enc P w base spare held n f1.type ((cs.drop f1.offset).take (P.cellsOf f1.type))=some y1 ∧
   DataW.trod enc P w base spare held n f2.type ((cs.drop f2.offset).take (P.cellsOf f2.type))=some y2:=by
 obtain ⟨xs,n,_,_,hl,hlen,hf⟩:=DataW.trod_struct ht h
 match xs,hlen with
 | [y0,y1,y2],_=>exact ⟨y0,y1,y2,n,hl,by simpa using hf 0 f0 rfl,by simpa using hf 1 f1 rfl,by simpa using hf 2 f2 rfl⟩
theorem cut_at {α:Type} (cs:List α) (n k:Nat):cs.drop n=(cs.drop n).take k++cs.drop (n+k):=by rw [← List.drop_drop];exact (List.take_append_drop k _).symm
end
section
variable {H:Type} {enc:TypeId×Value→H} {w:World} {base:Nat} {spare:Nat→Bool} {held:Bool}
theorem rd_disk {fuel:Nat} {cs:List Value} {x:DataW H×List MemPlace} (h:DataW.trod enc Tryz.prog w base spare held fuel 29 cs=some x):∃ r:RCi,cs=(rciC r).toList:=by
 obtain ⟨y0,y1,y2,n,hl,h0,h1,h2⟩:=trod_struct3 Tryz.underlying29 h
 obtain ⟨a,e0⟩:=rd_frac h0
 obtain ⟨b,e1⟩:=rd_gauss h1
 obtain ⟨c,e2⟩:=rd_frac h2
 rw [show Tryz.prog.cellsOf 29=16 by kernel_rfl] at hl
 rw [show Tryz.prog.cellsOf 25=4 by kernel_rfl] at e0 e2
 rw [show Tryz.prog.cellsOf 27=8 by kernel_rfl] at e1
 refine ⟨⟨a,b,c⟩,?_⟩
 have e0' : (cs.drop 0).take 4=_:=e0
 have e1' : (cs.drop 4).take 8=_:=e1
 have e2' : (cs.drop 12).take 4=_:=e2
 have e3:cs.drop 12=(cs.drop 12).take 4:=(List.take_of_length_le (by rw [List.length_drop,hl];decide)).symm
 have e:cs=(cs.drop 0).take 4++((cs.drop 4).take 8++cs.drop 12):=by
  rw [← cut_at cs 4 8,← cut_at cs 0 4,List.drop_zero]
 rw [e,e3,e0', e1', e2']
 rfl
set_option maxRecDepth 100000 in
theorem open_disk {r:Reach} {b0:Nat} {v:Value} {d:DataW H} {p:List MemPlace} (hv:Value.okWide Tryz.prog w r b0 29 v) (h:DataW.Trod enc Tryz.prog w base spare held 29 v d p):∃ r:RCi,v=rciV r:=by
 obtain ⟨cs,rfl,_⟩:=okWide_struct Tryz.underlying29 hv
 obtain ⟨fuel,hf⟩:=h
 obtain ⟨r,e⟩:=rd_disk hf
 exact ⟨r,by rw [show cs=rciC r from Array.ext' e]⟩
end
end Go.Proofs.YtcpjdjnaipbieaaGreat
