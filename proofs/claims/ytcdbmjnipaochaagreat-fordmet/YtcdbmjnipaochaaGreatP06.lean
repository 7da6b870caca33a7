import Derived.Test.YtcdbmjnipaochaaGreatP05
import Derived.Deep.Quiet
set_option linter.unusedVariables false
set_option linter.unusedSimpArgs false
set_option maxHeartbeats 8000000
set_option maxRecDepth 100000
namespace Go.Proofs.YtcdbmjnipaochaaGreat
open Go.RowKit Rgn Eng
variable {S:Nat→Prop} {W:World}
theorem ePlateY(c:Ci)(p0:cifits (rci c)=true):Calls Tryz.prog 140 #[ciV c] W (Ret (VP.tup (RingP c) (VP.is (.bool (decide (c.dot c=-1))))) S W):=by
 have f:=cifits_ht p0
 have h1:=dot_ht c c
 have z2:ht (Rat.divInt (-1:Int) (1:Int))=2:=by decide
 refine Run.goP (S:=S) (Pack.nil.k (ciV c) (ciC c).toList (.s (.agg (ks 0 16)))) Tryz.func140 rfl ?_
 refine Run.cR (spNumC true) (fun _ _ _ H=>eOf c.b (by first|omega|exact (and_3 p0).1|exact (and_3 p0).2.1|exact (and_3 p0).2.2|exact pos_flat p1)) ?_
 refine Run.dr ?_
 refine RunD.cR spRat (fun _ _ _ H=>eRatOk c.a (by first|omega|exact (and_3 p0).1|exact (and_3 p0).2.1|exact (and_3 p0).2.2|exact pos_flat p1)) ?_
 refine RunD.cR spRat (fun _ _ _ H=>eRatOk c.c (by first|omega|exact (and_3 p0).1|exact (and_3 p0).2.1|exact (and_3 p0).2.2|exact pos_flat p1)) ?_
 refine RunD.en ?_
 refine Run.np 2 (c.a) 143 .eql false (.inl ⟨rfl,rfl⟩) (fun c w=>by kernel_rfl) ?_
 refine Run.np 3 (c.c) 143 .eql false (.inl ⟨rfl,rfl⟩) (fun c w=>by kernel_rfl) ?_
 refine Run.dr ?_
 refine RunD.cR spRat (fun _ _ _ H=>dsBy c c (RingP.mk (H.f 2) (H.f 0) (H.f 1) (H.f 3)) (RingP.mk (H.f 2) (H.f 0) (H.f 1) (H.f 3)) (by first|omega|exact (and_3 p0).1|exact (and_3 p0).2.1|exact (and_3 p0).2.2|exact pos_flat p1)) ?_
 refine RunD.cR spRat (fun _ _ _ H=>qNewRat (-1) 1 (by decide) (by decide) (by decide) (by decide) (by decide)) ?_
 refine RunD.cV [.int .i64 (icmp ((c.dot c).num*((Rat.divInt (-1) 1).den:Int)) ((Rat.divInt (-1) 1).num*((c.dot c).den:Int)))] kb (fun _ _ _ H=>qCmp (c.dot c) (Rat.divInt (-1) 1) (H.f 4) (H.f 5) (by first|omega|exact (and_3 p0).1|exact (and_3 p0).2.1|exact (and_3 p0).2.2|exact pos_flat p1)) ?_
 refine RunD.bi [.bool ((icmp ((c.dot c).num*((Rat.divInt (-1) 1).den:Int)) ((Rat.divInt (-1) 1).num*((c.dot c).den:Int))) == 0)] kb (fun _ _ _ o1 o2 _ ho hx hy=>ex_icmp .eql 3 (icmp ((c.dot c).num*((Rat.divInt (-1) 1).den:Int)) ((Rat.divInt (-1) 1).num*((c.dot c).den:Int))) 0 (kk:=.i64) rfl ho hx hy) ?_
 refine RunD.en ?_
 exact Run.rR (fun _ _ _ H=>⟨_,_,rfl,(RingP.mk (H.f 2) (H.f 0) (H.f 1) (H.f 3)),plate_eq c⟩)
end Go.Proofs.YtcdbmjnipaochaaGreat
namespace Go.Proofs.YtcdbmjnipaochaaGreat
open Go.RowKit Rgn
theorem ePlateO{S:Nat→Prop}{W:World}(c:Ci)(p0:dsOk (rci c)=true):Calls Tryz.prog 140 #[ciV c] W (Ret (VP.tup (RingP c) (VP.is (.bool true))) S W):=by
 obtain⟨h1,h2⟩:=dsOk_c p0
 have h:=ePlateY (S:=S) (W:=W) c h1
 rw [decide_eq_true h2] at h
 exact h
end Go.Proofs.YtcdbmjnipaochaaGreat
namespace Go.Proofs.YtcdbmjnipaochaaGreat
open Go.RowKit Rgn
theorem fmay_rf(q:Rat):fmay (rf q)=fits (rf q):=by unfold fmay;rw [fformed_rf,Bool.and_true]
end Go.Proofs.YtcdbmjnipaochaaGreat
namespace Go.Proofs.YtcdbmjnipaochaaGreat
open Go.RowKit Rgn
@[reducible] def Cx.inv(k:Cx):Cx:=k.conj.scale k.norm⁻¹
theorem inv_one{k:Cx}(h:k.zero=false):k.inv.mul k=⟨1,0⟩:=by
 have hn:k.norm≠0:=zero_norm h
 have e:(k.re*k.re+k.im*k.im)*k.norm⁻¹=1:=Rat.mul_inv_cancel _ hn
 exact Cx.ext' (by show k.re*k.norm⁻¹*k.re - -k.im*k.norm⁻¹*k.im=1;grind) (by show k.re*k.norm⁻¹*k.im+-k.im*k.norm⁻¹*k.re=0;grind)
theorem inv_zero{k:Cx}(h:k.zero=false):k.inv.zero=false:=by
 cases e:k.inv.zero with
 | false=>rfl
 | true =>
  have h1:=inv_one h
  rw [zero_iff.1 e] at h1
  have h2:(0:Rat)*k.re-0*k.im=1:=congrArg Cx.re h1
  grind
@[reducible] def Mb.by(m:Mb)(j:Cx):Mb:=⟨m.a.mul j,m.b.mul j,m.c.mul j,m.d.mul j,m.t⟩
def Ci.at(c:Ci)(v w:Cx):Rat:=c.a*v.norm+c.c*w.norm+(((c.b.mul v).mul w.conj).re+((c.b.mul v).mul w.conj).re)
def Ci.mid(c:Ci)(n:Mb):Cx:=((((Cx.mk c.a 0).mul (n.a.mul n.b.conj)).add ((c.b.mul n.a).mul n.d.conj)).add ((c.b.mul n.b).conj.mul n.c)).add ((Cx.mk c.c 0).mul (n.c.mul n.d.conj))
def Ci.im(c:Ci)(n:Mb)(t:Bool):Ci:=⟨c.at n.a n.c,cjC t (c.mid n),c.at n.b n.d⟩
def HB(z:Cx)(n:Nat):Prop:=ht z.re≤n∧ht z.im≤n
section
variable {x y z:Cx} {p q:Rat} {a b n:Nat}
theorem HB.two(h1:ht z.re≤a)(h2:ht z.im≤b)(n:Nat)(h:(Nat.ble a n&&Nat.ble b n)=true:=by decide):HB z n:=by
 simp only [Bool.and_eq_true,Nat.ble_eq] at h
 exact⟨Nat.le_trans h1 h.1,Nat.le_trans h2 h.2⟩
theorem HB.mul(h1:HB x a)(h2:HB y b)(n:Nat)(h:2*a+2*b≤n:=by decide):HB (x.mul y) n:=by
 have:=hc_mul x y
 unfold HB at *;omega
theorem HB.add(h1:HB x a)(h2:HB y b)(n:Nat)(h:a+b≤n:=by decide):HB (x.add y) n:=by
 have:=hc_add x y
 unfold HB at *;omega
theorem HB.sub(h1:HB x a)(h2:HB y b)(n:Nat)(h:a+b≤n:=by decide):HB (x.sub y) n:=by
 have:=hc_sub x y
 unfold HB at *;omega
theorem HB.div(h1:HB x a)(h2:HB y b)(n:Nat)(h:6*a+6*b≤n:=by decide):HB (x.div y) n:=by
 have:=hc_div x y
 unfold HB at *;omega
theorem HB.neg(h1:HB x a):HB x.neg a:=by have:=hc_neg x;unfold HB at *;omega
theorem HB.conj(h1:HB x a):HB x.conj a:=by have:=hc_conj x;unfold HB at *;omega
theorem HB.scale(h1:HB x a)(h2:ht p≤b)(n:Nat)(h:a+b≤n:=by decide):HB (x.scale p) n:=by
 have:=hc_scale x p
 unfold HB at *;omega
theorem HB.norm(h1:HB x a)(n:Nat)(h:4*a≤n:=by decide):ht x.norm≤n:=by
 have:=hc_norm x
 unfold HB at *;omega
end
end Go.Proofs.YtcdbmjnipaochaaGreat
namespace Go.Proofs.YtcdbmjnipaochaaGreat
open Go.RowKit Rgn Eng
variable {S:Nat→Prop} {W:World}
theorem fCmp(x y:Rat)(p0:ht x+ht y≤68719476736):Calls Tryz.prog 79 #[fV x,fV y] W (RetV (.int .i64 (icmp (x.num*(y.den:Int)) (y.num*(x.den:Int)))) W):=by
 have n0:=hi_num x
 have n1:=hi_num y
 have n2:=hi_den x
 have n3:=hi_den y
 have m0:=hi_mul x.num (y.den:Int)
 have m1:=hi_mul y.num (x.den:Int)
 refine Run.goP (S:=Z0) ((Pack.nil.k (fV x) (fC x).toList (.s (.agg (ks 0 4)))).k (fV y) (fC y).toList (.s (.agg (ks 0 4)))) Tryz.func79 rfl ?_
 refine Run.dr ?_
 refine RunD.cV (wC (x.num*(y.den:Int))).toList (.s (.agg (ks 0 2))) (fun _ _ _ H=>rTimes x.num (y.den:Int) (by omega)) ?_
 refine RunD.cV (wC (y.num*(x.den:Int))).toList (.s (.agg (ks 0 2))) (fun _ _ _ H=>rTimes y.num (x.den:Int) (by omega)) ?_
 refine RunD.cV [.int .i64 (icmp (x.num*(y.den:Int)) (y.num*(x.den:Int)))] kb (fun _ _ _ H=>rCmp (x.num*(y.den:Int)) (y.num*(x.den:Int)) (by omega)) ?_
 refine RunD.en ?_
 exact Run.rV rfl
theorem fSmall(a b:Int)(p0:-9223372036854775808≤a)(p1:a≤9223372036854775807)(p2:-9223372036854775808≤b)(p3:b≤9223372036854775807)(p4:b≠0):Calls Tryz.prog 169 #[.int .i64 a,.int .i64 b] W (RetV (fV (Rat.divInt a b)) W):=by
 have n0:=hi_i64 p0 p1
 have n1:=hi_i64 p2 p3
 refine Run.goP (S:=Z0) ((Pack.nil.k (.int .i64 a) [.int .i64 a] kb).k (.int .i64 b) [.int .i64 b] kb) Tryz.func169 rfl ?_
 refine Run.cV (wC a).toList (.s (.agg (ks 0 2))) (fun _ _ _ H=>rOf a p0 p1) ?_
 refine Run.cV (wC b).toList (.s (.agg (ks 0 2))) (fun _ _ _ H=>rOf b p2 p3) ?_
 refine Run.cV (fC (Rat.divInt a b)).toList (.s (.agg (ks 0 4))) (fun _ _ _ H=>fOf a b (by first|omega|exact p4) p4) ?_
 exact Run.rV rfl
end Go.Proofs.YtcdbmjnipaochaaGreat
namespace Go.Proofs.YtcdbmjnipaochaaGreat
open Go.RowKit Rgn
section
variable {w:World}
theorem eqin_dk(d:Nat)(r q:RCi):(Op.equalIn (d+5) 29 (rciV r) (rciV q)).run Tryz.prog w=.ok (decide (r=q)) w:=by
 have hf:=fields_of Tryz.underlying29
 have e:decide (r=q)=((decide (r.a=q.a)&&(decide (r.b=q.b)&&(decide (r.c=q.c)&&true)))):=by
  cases r;cases q;simp only [RCi.mk.injEq,Bool.and_true,decide_eq_decide,Bool.decide_and]
 rw [e]
 rw [run_equalIn_struct _ _ _ _ _ (by rw [hf];exact Tryz.underlying29) (by kernel_rfl),hf]
 refine eqf_step (a:=rfV r.a) (b:=rfV q.a) (by decide) (by go_simp) (by go_simp) (eqin_frac _ _ _) (eqf_step (a:=rgV r.b) (b:=rgV q.b) (by decide) (by go_simp) (by go_simp) (eqin_gauss _ _ _) (eqf_step (a:=rfV r.c) (b:=rfV q.c) (by decide) (by go_simp) (by go_simp) (eqin_frac _ _ _) (eqf_nil)))
end
theorem ex_eql_dk{ρ:Operand→Value}{o:Oper}{w:World}{k:TypeId}(a b:Operand)(ho:o.op=.binOp .eql 29 a b k){r q:RCi}(ha:ρ a=rciV r)(hb:ρ b=rciV q){c:Bool}(hc:decide (r=q)=c):(execOp ρ o).run Tryz.prog w=.ok (.value (.bool (c))) w:=by
 subst hc
 unfold execOp
 simp only [ho,ha,hb,rciV,Sem.run_bind]
 rw [run_eqGuard_agg (P:=Tryz.prog) w .eql 29 a b (rciC r) (rciC q) (by kernel_rfl)]
 simp only [Result.andThen_ok,Sem.run_bind,run_eql_struct,eqin_dk 9995 r q]
 rfl
end Go.Proofs.YtcdbmjnipaochaaGreat
namespace Go.Proofs.YtcdbmjnipaochaaGreat
open Go.RowKit Rgn Eng
def Ci.in4(n re im co:Int):Ci:=⟨(n:Rat),Cx.ofInt re im,(co:Rat)⟩
def Ci.dk(c:Ci):Int:=if (!decide (c.b.norm-c.a*c.c=(1:Rat)))=true then 2 else 0
section
variable {a b:Ci}
end
end Go.Proofs.YtcdbmjnipaochaaGreat
namespace Go.Proofs.YtcdbmjnipaochaaGreat
open Go.RowKit Rgn Eng
def lg6(r:RW):Bool:=decide (60<(r.s.size:Int))&&decide ((r.s.size:Int)≤1024)
def lgD(r:RF):Bool:=lg6 r.a||lg6 r.b
def lgE(r:RG):Bool:=lgD r.re||lgD r.im
def lgK(c:RCi):Bool:=lgD c.a||lgE c.b||lgD c.c
theorem in4_fits{n re im co:Int}(h1:ht (n:Rat)≤100)(h2:ht (re:Rat)≤100)(h3:ht (im:Rat)≤100)(h4:ht (co:Rat)≤100):cifits (rci (Ci.in4 n re im co))=true:=by
 show (fits (rf (n:Rat))&&gfits (rg (Cx.ofInt re im))&&fits (rf (co:Rat)))=true
 rw [fits_ht (by omega),fits_ht (by omega),gfits_ht (z:=Cx.ofInt re im) ⟨by show ht (re:Rat)≤_;omega,by show ht (im:Rat)≤_;omega⟩];rfl
theorem okO:dsOk (rci (Ci.in4 (-1) 0 0 1))=true:=dsOk_yes (in4_fits (by decide) (by decide) (by decide) (by decide)) (by decide +kernel)
theorem okB:dsOk (rci (Ci.in4 2 (-1) 0 0))=true:=dsOk_yes (in4_fits (by decide) (by decide) (by decide) (by decide)) (by decide +kernel)
variable {W:World}
end Go.Proofs.YtcdbmjnipaochaaGreat
namespace Go.Proofs.YtcdbmjnipaochaaGreat
open Go.RowKit Rgn
structure PnF (P:Pn):Prop where
 z:P.inf=true→P.z=⟨0,0⟩
 f:pnfits P=true
theorem pnOk_ex{r:RPn}(h:pnOk r=true):∃ P,r=pnR P∧PnF P:=by
 unfold pnOk at h
 split at h
 ·have:=of_decide_eq_true h
  exact⟨⟨true,⟨0,0⟩⟩,this,fun _=>rfl,rfl⟩
 ·rename_i hi
  obtain⟨i,z⟩:=r
  cases i with
  | true=>exact absurd rfl hi
  | false =>
   obtain⟨c,rfl⟩:=gmay_ex h
   rw [gmay_rg] at h
   exact⟨⟨false,c⟩,rfl,⟨fun h=>(by cases h),h⟩⟩
theorem PnF.ht{P:Pn}(h:PnF P):ht P.z.re+ht P.z.im≤20000:=by
 cases e:P.inf with
 | true=>rw [h.z e];decide
 | false =>
  have:=h.f
  unfold pnfits at this
  rw [e] at this
  exact gfits_ht2 this
section
variable {m:Mb} {c:Ci} (h:m.det.zero=false) (hc:c.pos=true)
include h hc
end
end Go.Proofs.YtcdbmjnipaochaaGreat
namespace Go.Proofs.YtcdbmjnipaochaaGreat
open Go.RowKit Rgn Eng
section
variable {a b:Ci}
theorem d11:Rat.divInt 1 1=(1:Rat):=by decide
end
end Go.Proofs.YtcdbmjnipaochaaGreat
namespace Go.Proofs.YtcdbmjnipaochaaGreat
open Go.RowKit Rgn
@[reducible] def Mb.st:Mb:=⟨⟨1,0⟩,⟨0,0⟩,⟨0,0⟩,⟨1,0⟩,false⟩
@[reducible] def Ci.duo(c d:Ci):Mb:=c.over.dot (Mb.cjM true d.over)
@[reducible] def Mb.adj(m:Mb):Mb:=Mb.cjM m.t ⟨m.d,m.b.neg,m.c.neg,m.a,m.t⟩
theorem make_zeros(z z': Int)(q n:Nat)(hz:z=q)(hz': z'=n)(hq:q≤n)(hn:n≤1099511627776)(u:World):(Instr.makeSlice 208 (.int .i64 z) (.int .i64 z')).run Tryz.prog u =
   .ok (.slice (some ⟨u.heap.size,0,none⟩) q n) (u.alloc (.cells (wcells (List.replicate n 0)) 315)):=by
 subst hz
 subst hz'
 obtain⟨i0,hi,hz0,hz1,hz2⟩:=info_parts info_u32
 have h:=run_make (P:=Tryz.prog) u 208 315 i0 (.int .u32 0) Tryz.underlying208 hi hz0 .i64 .i64 (q:Int) (n:Int) (by omega) (by omega) (by rw [hz2];omega) (by omega)
 rw [← made_wcells]
 simpa [hz1,Value.cells] using h
theorem Own.zeros{B:Nat}{w:World}(hB:B≤w.heap.size)(q n:Nat)(hq:q≤n)(hn:n≤1099511627776):Own B (w.alloc (.cells (wcells (List.replicate n 0)) 315)) (.slice (some ⟨w.heap.size,0,none⟩) q n) (List.replicate q 0):=by
 refine⟨⟨by simp [u32s],.inr ⟨w.heap.size,n,_,?_,hB,heap_alloc_new w _,?_,?_,?_,?_⟩⟩,Bd.replicate _⟩
 ·simp
 ·simpa using hq
 ·simp only [maxLen];omega
 ·simp [wcells_size]
 ·simp [wcells,u32s,List.map_replicate,List.take_replicate,Nat.min_eq_left hq]
theorem val_zeros(q:Nat):val (List.replicate q 0)=0:=by
 induction q with
 | zero=>rfl
 | succ q ih=>simp [List.replicate_succ,val,ih]
theorem up_stepq{l L:List Nat}{q k cy p:Nat}(hL:L.length=q+k)(h:val L+4294967296^(q+k)*cy=4294967296^q*(val (l.take k)*p)):val (L++[(cy+l.getD k 0*p)%4294967296])+4294967296^(q+(k+1))*((cy+l.getD k 0*p)/4294967296)=4294967296^q*(val (l.take (k+1))*p):=by
 have e:=Nat.mod_add_div (cy+l.getD k 0*p) 4294967296
 rw [val_snoc,val_take_succ,Nat.add_mul,Nat.mul_add,← h,hL,← Nat.add_assoc,Nat.pow_succ]
 generalize (cy+l.getD k 0*p)%4294967296=m at *
 generalize (cy+l.getD k 0*p)/4294967296=d at *
 have e2:4294967296^q*(4294967296^k*l.getD k 0*p)=4294967296^(q+k)*(l.getD k 0*p):=by rw [Nat.pow_add];ac_rfl
 rw [e2]
 generalize l.getD k 0*p=x at *
 generalize 4294967296^(q+k)=B at *
 rw [Nat.mul_assoc B,Nat.add_assoc,← Nat.mul_add,e,Nat.mul_add,Nat.add_assoc]
theorem bigleft_all(v:Value)(l:List Nat)(s:Nat)(w:World)(h:Words w v l)(hs:s≤274877906944)(hl:l.length≤274877906944):Calls Tryz.prog 302 #[v,.int .i64 s] w (MagRet (val l*2^s) w):=by
 have Hb:=h.bd
 obtain⟨a,c,rfl,hc1,hc2⟩:=h.len
 have H1:=Lib.hid h
 clear h
 obtain⟨q,hq⟩:∃ q,q=s/32:=⟨_,rfl⟩
 obtain⟨t,ht⟩:∃ t,t=s%32:=⟨_,rfl⟩
 have e0:(s:Int)/32=q:=by omega
 have e1:(s:Int)%32=t:=by omega
 have e2:s%32=t:=by omega
 have ht32:t<32:=by omega
 have hmk:=make_zeros ((s:Int)/32) ((s:Int)/32+(l.length:Int)+1) q (q+l.length+1) (by omega) (by omega) (by omega) (by omega)
 obtain⟨p,hp⟩:∃ p,p=2^t:=⟨_,rfl⟩
 have hps:Hid (2^s=4294967296^q*p):=by
  show _=_
  rw [hp,show s=32*q+t by omega,Nat.pow_add,Nat.pow_mul]
 have hpI:(2:Int)^t=(p:Int):=by rw [hp];simp
 have hp1:p≤2147483648:=by rw [hp];exact Nat.pow_le_pow_right (n:=2) (by decide) (by omega:t≤31)
 have hp0:0<p:=by rw [hp];exact Nat.pow_pos (by decide)
 have hor:=fun (cy x:Nat) (h1:cy<p) (h2:x<4294967296)=>or_shl hp ht32 h1 h2
 have HOR:=Lib.hid hor
 clear hp hor
 rw [e0] at hmk
 have hqb:q≤8589934592:=by omega
 clear hq ht
 go_enter Tryz.func302,Tryz.ntmps302
 go_wp2_with fail
 go_loopw [5,6,20] (fun v5 v6 v7 wr=>∃ (k cy:Nat) (L:List Nat),v6=.int .u64 cy∧v7=.int .i64 k∧k≤l.length∧cy<p∧L.length=q+k∧Hid (val L+4294967296^(q+k)*cy=4294967296^q*(val (l.take k)*p))∧Own w.heap.size wr v5 L∧Below w.heap.size w wr) (fun _ _ v7 _=>l.length-(intOf v7).toNat)
 case atStart =>
  refine⟨0,0,_,rfl,rfl,by omega,hp0,?_,?_,Own.zeros (Nat.le_refl w.heap.size) q (q+l.length+1) (by omega) (by omega),?_⟩
  ·simp
  ·show _=_;simp [val,val_zeros]
  ·go_grown
 case round =>
  obtain⟨k,cy,L,rfl,rfl,hk,hcy,hL,HS,HO,HW⟩:=hrel
  obtain⟨i0,hi,hz0,hz1,hz2⟩:=info_parts info_u32
  by_cases hkn:k<l.length
  ·have hkn' : (k:Int)<(l.length:Int):=by omega
   obtain⟨b,off,rfl,hca⟩:=(H1.out.low HW).at hkn
   have hx:=Hb.getD k
   have HS' := Lib.hid (up_stepq hL HS)
   generalize l.getD k 0=x at *
   have hq:x*p≤4294967295*p:=Nat.mul_le_mul_right _ (by omega)
   have eq:(x:Int)*(p:Int)=((x*p:Nat):Int):=by simp
   have hor:=HOR.out cy x hcy hx
   generalize x*p=y at *
   clear HS
   have hB:=HW.size
   go_wp2_with (first|(at_builtin;go_loud (refine wpList_push rfl _ _ rfl w.heap.size _ L ((cy+y)%4294967296) _ HO HW hB rfl rfl (by omega) (by omega) (by omega) ?_;intro v' w1 HO1 HW1)))
   refine⟨?_,?_⟩
   ·exact⟨k+1,(cy+y)/4294967296,_,by go_num,by go_num,by omega,by omega,by simp [hL];omega,HS', HO1,HW1⟩
   ·simp [intOf];omega
  ·have hkn' : ¬ (k:Int)<(l.length:Int):=by omega
   have e:k=l.length:=by omega
   have HV:Hid (val (L++[cy])=val l*2^s):=by
    show _=_
    rw [val_snoc,hL,HS.out,e,List.take_length,hps.out]
    ac_rfl
   clear HS
   have hB:=HW.size
   go_wp2_with (first|(at_builtin;refine wpList_push rfl _ _ rfl w.heap.size _ L cy _ HO HW hB rfl rfl (by omega) (by omega) (by omega) ?_;intro v' w1 HO1 HW1))
   go_call (bigcut_any _ _ _ HO1.words) as _ _ ⟨rfl,rfl⟩
   go_wp2
   go_ret
   exact⟨_,rfl,⟨_,HO1.words.cut,trim_canon _,by rw [val_trim,HV.out]⟩,HW1⟩
end Go.Proofs.YtcdbmjnipaochaaGreat
namespace Go.Proofs.YtcdbmjnipaochaaGreat
open Go.RowKit Rgn
variable {S:Nat→Prop} {W:World}
theorem bLeft{v0:Value}(a:Nat)(n:Int)(t0:(MagP a).p S v0 W)(p0:bl a≤1099511627776)(p1:0≤n)(p2:n≤274877906944):Calls Tryz.prog 302 #[v0,.int .i64 n] W (Ret (RawP (a*2^n.toNat)) S W):=by
 obtain⟨l,h1,h2,h3,h4⟩:=Mag.words t0 p0
 subst h3
 obtain⟨k,rfl⟩:=Int.eq_ofNat_of_zero_le p1
 exact (bigleft_all v0 l k W h1 (by omega) (by omega)).mono fun e w' ⟨v,h1,⟨l', h2,_,h3⟩,h4⟩=>⟨v,h1,⟨l', h2,h3⟩,h4⟩
theorem sgn_shl(x:Int)(k:Nat):sgn (decide (x<0)) (x.natAbs*2^k)=x*2^k:=by
 have h:=sgn_self x
 have e:((2^k:Nat):Int)=2^k:=by simp
 revert h
 unfold sgn
 rw [Int.natCast_mul,e]
 generalize (2:Int)^k=p
 by_cases c:x<0<;>simp only [c,decide_true,decide_false,if_true,Bool.false_eq_true,if_false]<;>intro h
 ·rw [← Int.neg_mul,h]
 ·rw [h]
theorem bLsh{z:Nat}{v1:Value}(x n:Int)(hz:IntBlk W z)(t1:(IntP x).p S v1 W)(p0:hi x≤1099511627776)(p1:0≤n)(p2:n≤274877906944):Calls Tryz.prog 260 #[.pointer (some ⟨z,0,none⟩),v1,.int .u64 n] W (RetOwn z (IntO (x*2^n.toNat)) W):=by
 have hS_:∃ S' : Nat→Prop,S' z∧(IntP x).p S' v1 W:=⟨fun k=>S k∨k=z,.inr rfl,(IntP x).mono (fun _ _ h=>.inl h) t1⟩
 clear t1
 obtain⟨S,L_z,t1⟩:=hS_
 replace L_z:Amb S W z:=.inl L_z
 obtain⟨z_0,z_1,B_z⟩:=hz
 obtain⟨b1,ob1,rfl,L1,F1⟩:=IntP.elim t1
 replace L1:Amb S W b1:=.inl L1
 have q0:=hi_bl x
 have bel:Only z W W:=Only.refl _ _
 go_enter Tryz.func260,Tryz.ntmps260
 refine gs 1 (Amb S W) fun _ K2=>?_
 refine .mc rfl ?_
 refine .dg (fun u=>pt z::.pointer (some ⟨b1,ob1,none⟩)::.int .u64 n::U::U::U::u 0::us 13) K2 bel.size fun u1 w1 D=>?_
 have E1_0:=D.q 0
 replace B_z:=D.k B_z
 replace F1:=D.o L1 F1
 replace bel:=D.d.base.only0 bel
 clear D
 refine wp_seq_k fun _ K3=>?_
 refine go2_drawnT (by kernel_rfl) 12 2 rfl (by decide) (by kernel_rfl) (Amb S W) [] [] (Olds.nil _) (by kernel_rfl) ?_
 refine .mz rfl 0 (V:=pt z) rfl ?_
 refine .mz rfl 1 (V:=.pointer (some ⟨b1,ob1,none⟩)) rfl ?_
 refine .nc rfl 1 ?_
 refine .fj rfl 2 ob1 ?_
 refine .e rfl (V:=.bool (decide (x<0))) (fun H=>by have e10:=H.g 10 3;have c1:=IntP.c0 (k:=ob1) (VP.any _ (H.was _ [] (VP.at F1 L1))) rfl;clear H;go_simp) ?_
 refine .mz rfl 1 (V:=.pointer (some ⟨b1,ob1,none⟩)) rfl ?_
 refine .nc rfl 5 ?_
 refine .fj rfl 6 (ob1+1) ?_
 refine Go2.fn (i:=8) rfl (G0 rfl) (.val 8 [] (MagP x.natAbs)) (fun u μ ρ H=>by have e14:=H.g 14 7;obtain⟨v_,c1,hm_⟩:=IntP.c1 (k:=ob1+1) (VP.any _ (H.was _ [] (VP.at F1 L1))) rfl;exact⟨v_,by clear H hm_;go_simp,SP.magVal hm_⟩) ?_
 refine .mz rfl 2 (V:=.int .u64 n) rfl ?_
 refine .e rfl (V:=.int .i64 (n)) (fun H=>by have e16:=H.g 16 9;have aw_:IntKind.wrap .i64 (n)=n:=IntWalk.i64_in _ (by omega);clear H;go_simp) ?_
 refine .cR rfl [8] Tryz.func302 (fun H=>⟨_,ar2 (H.r 15 8) (H.g 17 10),bLeft _ _ (SV.sub [8] (H.a 8 rfl) rfl) (by omega) (by omega) (by omega)⟩) ?_
 refine .dT (fun u=>pt z::.pointer (some ⟨b1,ob1,none⟩)::.int .u64 n::U::U::U::u 13::sq u 0 13 []) bel.size _ rfl fun u2 w2 D=>?_
 obtain⟨x4,E2_11,F_x4⟩:∃ x_,(u2 11).v=x_∧(RawP (x.natAbs*2^(n).toNat)).p (Amb S W) x_ w2:=⟨_,rfl,D.rr 11⟩
 have E2_0:=D.q 0
 have E2_4:=D.q 4
 replace B_z:=D.k B_z
 replace bel:=D.d.base.only0 bel
 clear D
 refine wpT_callO (args:=#[pt z,.bool (decide (x<0)),x4]) rfl (ex_call rfl rfl Tryz.func279 (by kernel_rfl) (by kernel_rfl) (by simp only [List.map_toArray,List.map_cons,List.map_nil];show #[(u2 0).v,(u2 4).v,(u2 11).v]=#[pt z,.bool (decide (x<0)),x4];rw [E2_0,E2_4,E2_11])) (bIs (z:=z) (neg:=(decide (x<0))) (n:=x.natAbs*2^(n).toNat) (IntBlk.of B_z) (VP.any _ F_x4) ) fun w5 fw5 ow5=>?_
 have sw5:Soft w2 z∨Local w2 z:=.inl ⟨_,_,B_z,rfl⟩
 replace F_x4:(RawP (x.natAbs*2^(n).toNat)).p (Amb S W) x4 w5:=(RawP (x.natAbs*2^(n).toNat)).grow (S:=fun _=>False) (Rgn.Only.growF ow5 sw5) F_x4
 have F_z:=fw5
 replace bel:=bel.trans ow5
 refine wpT_val rfl (ex_assign rfl) ?_
 refine wpList_nil ?_
 show _
 refine K3 _ _ ?_
 refine wp_ret ?_
 refine ret_ok rfl (by exact results_tmp' rfl rfl) ⟨rfl,?_,bel⟩
 exact into_eq (sgn_shl x n.toNat) F_z
end Go.Proofs.YtcdbmjnipaochaaGreat
namespace Go.Proofs.YtcdbmjnipaochaaGreat
open Go.RowKit Rgn
def rabs(x:Rat):Rat:=if x.num<0 then -x else x
theorem rabs_parts(x:Rat):decide ((rabs x).num<0)=false∧(rabs x).num.natAbs=x.num.natAbs∧(rabs x).den=x.den:=by
 unfold rabs
 split
 ·rename_i h
  refine⟨decide_eq_false ?_,?_,?_⟩
  ·rw [Rat.neg_num];omega
  ·rw [Rat.neg_num,Int.natAbs_neg]
  ·exact Rat.neg_den x
 ·rename_i h
  exact⟨decide_eq_false h,rfl,rfl⟩
theorem ht_rabs(x:Rat):ht (rabs x)=ht x:=by
 unfold rabs;split
 ·exact ht_neg x
 ·rfl
theorem qAbs{S:Nat→Prop}{W:World}{z:Nat}{v1:Value}(x:Rat)(hz:RatBlk W z)(t1:(RatP x).p S v1 W)(p0:ht x≤68719476736):Calls Tryz.prog 170 #[.pointer (some ⟨z,0,none⟩),v1] W (RetOwn z (RatP (rabs x)) W):=by
 have hS:=qSetF x hz t1 p0
 obtain⟨r1,r2,r3⟩:=rabs_parts x
 have hT:=fun (w1:World) (h:(RatF x).p (·=z) (.pointer (some ⟨z,0,none⟩)) w1)=>RatF.at h
 go_enter Tryz.func170,Tryz.ntmps170
 go_wp2_with fail
 go_call hS as _ w1 ⟨rfl,hf,ho⟩
 obtain⟨u1,u2,hB,hm1,hm2⟩:=hT w1 hf
 have hO:Only z w1 (w1.setCell ⟨z,0,none⟩ (.bool false)):=setCell_only _ ⟨z,0,none⟩ _
 have hB2:=setCell_at (o:=0) (v:=.bool false) hB
 have hg:=hO.growF (.inl ⟨_,_,hB,rfl⟩)
 have g1:=MagP x.num.natAbs |>.grow hg (S:=fun _=>False) hm1
 have g2:=MagP x.den |>.grow hg (S:=fun _=>False) hm2
 have HR:RetOwn z (RatP (rabs x)) W (.returned (.pointer (some ⟨z,0,none⟩))) (w1.setCell ⟨z,0,none⟩ (.bool false)) :=
  ⟨rfl,⟨z,rfl,rfl,.inl ⟨u1,u2,by rw [r1];exact hB2,by rw [r2];exact g1,by rw [r3];exact g2⟩⟩,ho.trans hO⟩
 have HR:=Lib.hid HR
 have hf1:w1.frozen? ⟨z,0,none⟩=false:=frozen_of hB
 have hcc0:w1.cell? ⟨z,0,none⟩=some (.bool (decide (x.num<0))):=cell_of (off:=0) hB rfl
 clear g1 g2 hg hB2 hO hm1 hm2 hB hT hf ho r1 r2 r3 hS t1 hz p0
 go_wp2_with fail
 exact ret_ok rfl (by exact results_tmp' rfl rfl) HR.out
end Go.Proofs.YtcdbmjnipaochaaGreat
namespace Go.Proofs.YtcdbmjnipaochaaGreat
open Go.RowKit Rgn Eng
def Pn.hv(p:Pn):Cx:=if p.inf=true then ⟨1,0⟩ else p.z
def Pn.hw(p:Pn):Cx:=if p.inf=true then ⟨0,0⟩ else ⟨1,0⟩
def Ci.ext(d:Ci):Pn :=
 if decide (0<d.rim.side ⟨false,Cx.ofInt 0 0⟩)=true then ⟨false,Cx.ofInt 0 0⟩
 else if decide (0<d.rim.side ⟨true,⟨0,0⟩⟩)=true then ⟨true,⟨0,0⟩⟩
 else if decide (d.a.num.sign<0)=true then ⟨false,d.b.scale d.a⁻¹⟩
 else ⟨false,((Cx.mk d.b.re 0).add ((Cx.mk d.b.im 0).mul (Cx.ofInt (0:Int) (1:Int)))).scale (-(rabs d.c+Rat.divInt (1:Int) (1:Int)))⟩
section
variable {d:Ci} {m:Mb} {b:Bool}
end
end Go.Proofs.YtcdbmjnipaochaaGreat
namespace Go.Proofs.YtcdbmjnipaochaaGreat
open Go.RowKit Rgn
section
variable {S:Nat→Prop} {W:World}
end
section
variable {ops:Array Oper} {a0:Act} {w0:World} {R0:Nat→Prop} {olds:List (Nat×Nat)} {F:List (Pl w0.heap.size R0 olds)→Prop} {k i:Nat} {rp:List (Nat×Pl w0.heap.size R0 olds)} {o:Oper}
theorem mag_one(w:World):Mag (w.alloc (.cells #[.int .u32 1] 315)) (.slice (some ⟨w.heap.size,0,none⟩) 1 1) 1:=by
 have h:=(Blk.alloc w [1]).all (cap:=1) (by intro x hx;simp at hx;subst hx;decide) (by decide) (by decide)
 refine⟨[1],by exact h,by simp [Canon],by simp [val]⟩
theorem Rgn.Go2.m1(ho:ops[i]? = some o)(rest:Go2 Tryz.prog ops a0 w0 F k (i+1) ((i,.op none (.val i [] (MagP 1)))::rp))(hop:o.op=.buildSlice 208 1 #[(0,.const (.int .u32 1))]:=by rfl)(hg:Gd2 ops a0 w0 rp i o:=by exact G0 rfl):Go2 Tryz.prog ops a0 w0 F (k+1) i rp :=
 Go2.gR ho [] hg rfl (fun {u w ρ} H=>by
  exact⟨_,_,ex_bs (P:=Tryz.prog) (e:=315) (sz:=1) [.int .u32 1] hop (by simp [H.c]) (by intro v hv;simp at hv;subst hv;rfl) rfl (by kernel_rfl) (by kernel_rfl) (by decide) (by decide) (by decide),mag_one w,RowKit.Below.alloc (RowKit.Below.refl _ _) (Nat.le_refl _) _⟩) rest
end
end Go.Proofs.YtcdbmjnipaochaaGreat
namespace Go.Proofs.YtcdbmjnipaochaaGreat
open Go.RowKit Rgn Eng
variable {W:World}
theorem lg6_le{n:Nat}(h:(decide (60<(n:Int))&&decide ((n:Int)≤1024))=false)(f:n≤1024):n≤60:=by
 rw [Bool.and_eq_false_iff] at h
 rcases h with h|h
 ·have:=of_decide_eq_false h;omega
 ·have:=of_decide_eq_false h;omega
theorem lgD_ht{q:Rat}(h:lgD (rf q)=false)(f:fits (rf q)=true):ht q≤490:=by
 unfold fits at f
 rw [Bool.and_eq_true,decide_eq_true_eq,decide_eq_true_eq] at f
 unfold lgD lg6 at h
 rw [Bool.or_eq_false_iff] at h
 have h3:(rw q.num).s.size≤60:=lg6_le h.1 f.1
 have h4:(rw (q.den:Int)).s.size≤60:=lg6_le h.2 f.2
 have h1:=hi_bytes q.num
 have h2:=hi_bytes (q.den:Int)
 have h5:hi (q.den:Int)=bl q.den+1:=by unfold hi;rw [Int.natAbs_natCast]
 have h6:hi q.num=bl q.num.natAbs+1:=rfl
 unfold ht
 omega
theorem lgE_ht{z:Cx}(h:lgE (rg z)=false)(f:gfits (rg z)=true):ht z.re+ht z.im≤980:=by
 have f:(fits (rf z.re)&&fits (rf z.im))=true:=f
 have h:(lgD (rf z.re)||lgD (rf z.im))=false:=h
 rw [Bool.and_eq_true] at f
 rw [Bool.or_eq_false_iff] at h
 have h1:=lgD_ht h.1 f.1
 have h2:=lgD_ht h.2 f.2
 omega
theorem lgK_ht{c:Ci}(h:lgK (rci c)=false)(f:cifits (rci c)=true):ht c.a+ht c.b.re+ht c.b.im+ht c.c≤1960:=by
 obtain⟨f1,f2,f3⟩:=and_3 f
 have h:((lgD (rf c.a)||lgE (rg c.b))||lgD (rf c.c))=false:=h
 rw [Bool.or_eq_false_iff,Bool.or_eq_false_iff] at h
 have h1:=lgD_ht h.1.1 f1
 have h2:=lgE_ht h.1.2 f2
 have h3:=lgD_ht h.2 f3
 omega
def Kp(a b:Ci)(m:RMb):Prop:=(lgK (rci a)||lgK (rci b))=false∧(lgE m.a=false∧lgE m.b=false∧lgE m.c=false∧lgE m.d=false)∧dsOk (rci a)=true∧dsOk (rci b)=true
theorem Kp.of{a b:Ci}{m:RMb}{p:RPn}(h:(lgK (rci a)||lgK (rci b))=false)(h2:(lgE m.a||lgE m.b||lgE m.c||lgE m.d||lgE p.z)=false)(h3:dsOk (rci a)=true)(h4:dsOk (rci b)=true):Kp a b m:=by
 simp only [Bool.or_eq_false_iff] at h2
 exact⟨h,⟨h2.1.1.1.1,h2.1.1.1.2,h2.1.1.2,h2.1.2⟩,h3,h4⟩
theorem Kp.a{a b:Ci}{m:RMb}(h:Kp a b m):ht a.a+ht a.b.re+ht a.b.im+ht a.c≤1960:=lgK_ht (Bool.or_eq_false_iff.1 h.1).1 (dsOk_c h.2.2.1).1
theorem Kp.b{a b:Ci}{m:RMb}(h:Kp a b m):ht b.a+ht b.b.re+ht b.b.im+ht b.c≤1960:=lgK_ht (Bool.or_eq_false_iff.1 h.1).2 (dsOk_c h.2.2.2).1
theorem Kp.m{a b:Ci}{m:Mb}(h:Kp a b (rmb m))(k:mbOk (rmb m)=true):ht m.a.re+ht m.a.im+ht m.b.re+ht m.b.im+ht m.c.re+ht m.c.im+ht m.d.re+ht m.d.im≤4000:=by
 obtain⟨f1,f2,f3,f4⟩:=and_4 (mbOk_c k).1
 obtain⟨h1,h2,h3,h4⟩:=h.2.1
 have k1:=lgE_ht h1 f1
 have k2:=lgE_ht h2 f2
 have k3:=lgE_ht h3 f3
 have k4:=lgE_ht h4 f4
 omega
noncomputable def pvm(p:RPn):Pn:=if h:pnOk p=true then (pnOk_ex h).choose else ⟨false,⟨0,0⟩⟩
noncomputable def atE(m:Mb)(p:RPn):Int:=if pnOk p=true then pnerr (m.send (pvm p)) else 2
section
variable {a b:Ci} {m:Mb} {p:RPn}
end
end Go.Proofs.YtcdbmjnipaochaaGreat
namespace Go.Proofs.YtcdbmjnipaochaaGreat
open Go.RowKit Rgn
theorem Only2.swap{z r:Nat}{w w': World}(h:Only2 z r w w'):Only2 r z w w' := ⟨h.os,h.tape,h.output,h.size,fun k hk h1 h2=>h.block k hk h2 h1⟩
theorem Only2.drop2{y z r:Nat}{a b c:World}(g:Only2 y r b c)(h:Only z a b)(hy:a.heap.size≤y)(hn:a.heap.size≤r):Only z a c :=
 ⟨g.os.trans h.os,g.tape.trans h.tape,g.output.trans h.output,Nat.le_trans h.size g.size,fun k hk h1=>(g.block k (Nat.lt_of_lt_of_le hk h.size) (by omega) (by omega)).trans (h.block k hk h1)⟩
theorem gcd_rest(a b:Int):Int.gcd b (a%b)=Int.gcd b a:=by
 have h:a%b=a-b*(a/b):=by have:=Int.emod_add_mul_ediv a b;omega
 rw [h,Int.sub_eq_add_neg,← Int.mul_neg,Int.gcd_add_mul_left_right]
structure MiI (g n a b x y:Int):Prop where
 a0:0≤a
 b0:0≤b
 an:a≤n
 bn:b≤n
 gc:Int.gcd a b=1
 xg:n ∣ x*g-a
 yg:n ∣ y*g-b
 sg:x*y≤0
 de:(x.natAbs:Int)*b+(y.natAbs:Int)*a=n
 xn:x.natAbs≤n.natAbs
 yn:y.natAbs≤n.natAbs
theorem mi_start{g n:Int}(hn:0<n)(h:Int.gcd g n=1):MiI g n (g%n) n 1 0:=by
 have h1:=Int.emod_nonneg g (show n≠0 by omega)
 have h2:=Int.emod_lt_of_pos g hn
 refine⟨h1,by omega,by omega,by omega,?_,?_,?_,by decide,?_,?_,?_⟩
 ·rw [← h,Int.gcd_comm (g%n) n,Int.gcd_comm g n];exact gcd_rest g n
 ·rw [Int.one_mul];exact Int.dvd_self_sub_emod
 ·rw [Int.zero_mul];exact⟨-1,by omega⟩
 ·show (1:Int)*n+0*_=n;omega
 ·show 1≤n.natAbs;omega
 ·show 0≤n.natAbs;omega
theorem abs_step{x y q:Int}(h:x*y≤0)(hq:0≤q):((x-q*y).natAbs:Int)=(x.natAbs:Int)+q*(y.natAbs:Int):=by
 rcases Int.lt_trichotomy y 0 with hy|hy|hy
 ·have hx:0≤x:=by
   rcases Int.lt_or_le x 0 with hx|hx
   ·have:=Int.mul_pos_of_neg_of_neg hx hy;omega
   ·exact hx
  have h1:0≤q*(-y):=Int.mul_nonneg hq (by omega)
  have h2:(y.natAbs:Int)=-y:=by omega
  rw [h2]
  have h3:(x.natAbs:Int)=x:=by omega
  rw [h3,Int.mul_neg]
  rw [Int.mul_neg] at h1
  omega
 ·subst hy;simp
 ·have hx:x≤0:=by
   rcases Int.lt_or_le 0 x with hx|hx
   ·have:=Int.mul_pos hx hy;omega
   ·exact hx
  have h1:0≤q*y:=Int.mul_nonneg hq (by omega)
  have h2:(y.natAbs:Int)=y:=by omega
  rw [h2]
  omega
theorem mi_step{g n a b x y:Int}(I:MiI g n a b x y)(hb:b≠0):MiI g n b (a%b) y (x-a/b*y):=by
 have b0:=I.b0
 have hb' : 0<b:=by omega
 have h1:=Int.emod_nonneg a hb
 have h2:=Int.emod_lt_of_pos a hb'
 have hq:0≤a/b:=Int.ediv_nonneg I.a0 I.b0
 have hm:=Int.emod_add_mul_ediv a b
 have ha:=abs_step I.sg hq
 have hd:(y.natAbs:Int)*(a%b)+((x-a/b*y).natAbs:Int)*b=n:=by
  rw [ha,← I.de,Int.add_mul]
  have h3:a%b=a-b*(a/b):=by omega
  rw [h3];grind
 refine⟨I.b0,h1,I.bn,by have:=I.bn;omega,?_,I.yg,?_,?_,hd,I.yn,?_⟩
 ·rw [gcd_rest,Int.gcd_comm];exact I.gc
 ·obtain⟨c,hc⟩:=I.xg
  obtain⟨d,hd'⟩:=I.yg
  refine⟨c-a/b*d,?_⟩
  have h3:a%b=a-b*(a/b):=by omega
  rw [h3]
  grind
 ·have h3:0≤a/b*(y*y):=Int.mul_nonneg hq (by rcases Int.le_total 0 y with h|h;exact Int.mul_nonneg h h;exact Int.mul_nonneg_of_nonpos_of_nonpos h h)
  have h4:y*(x-a/b*y)=x*y-a/b*(y*y):=by grind
  rw [h4];have:=I.sg;omega
 ·have h3:((x-a/b*y).natAbs:Int)*1≤((x-a/b*y).natAbs:Int)*b:=Int.mul_le_mul_of_nonneg_left (by omega) (by omega)
  have h4:0≤(y.natAbs:Int)*(a%b):=Int.mul_nonneg (by omega) h1
  omega
theorem mi_end{g n a b x y:Int}(I:MiI g n a b x y)(hb:b=0):a=1∧n ∣ x*g-1:=by
 have h:=I.gc
 rw [hb,Int.gcd_zero] at h
 have h2:=I.a0
 have h3:a=1:=by omega
 exact⟨h3,by have:=I.xg;rw [h3] at this;exact this⟩
open Classical in
noncomputable def minv(g n:Int):Int:=if h:∃ r,0≤r∧r<n∧n ∣ r*g-1 then h.choose else 0
theorem minv_of{g n x:Int}(hn:0<n)(h:n ∣ x*g-1):x%n=minv g n:=by
 have h1:n ∣ (x%n)*g-1:=by
  obtain⟨c,hc⟩:=h
  refine⟨c-x/n*g,?_⟩
  have h3:x%n=x-n*(x/n):=by have:=Int.emod_add_mul_ediv x n;omega
  rw [h3];grind
 have hex:∃ r,0≤r∧r<n∧n ∣ r*g-1:=⟨x%n,Int.emod_nonneg x (by omega),Int.emod_lt_of_pos x hn,h1⟩
 unfold minv
 rw [dif_pos hex]
 obtain⟨k1,k2,k3⟩:=hex.choose_spec
 generalize hex.choose=r at k1 k2 k3
 have l1:=Int.emod_nonneg x (show n≠0 by omega)
 have l2:=Int.emod_lt_of_pos x hn
 have h4:n ∣ x%n-r:=by
  obtain⟨c,hc⟩:=h1
  obtain⟨d,hd⟩:=k3
  refine⟨r*c-(x%n)*d,?_⟩
  have e1:(x%n)*g=n*c+1:=by omega
  have e2:r*g=n*d+1:=by omega
  have e3:(x%n)*(r*g)=r*((x%n)*g):=by grind
  rw [e1,e2] at e3
  grind
 obtain⟨c,hc⟩:=h4
 rcases Int.lt_trichotomy c 0 with h|h|h
 ·have:n*c≤n*(-1):=Int.mul_le_mul_of_nonneg_left (by omega) (by omega)
  omega
 ·subst h;omega
 ·have:n*1≤n*c:=Int.mul_le_mul_of_nonneg_left (by omega) (by omega)
  omega
theorem minv_ok{g n:Int}(hn:0<n)(h:Int.gcd g n=1):0≤minv g n∧minv g n<n∧n ∣ minv g n*g-1:=by
 have key:∀ (k:Nat) (a b x y:Int),MiI g n a b x y→b.toNat≤k→∃ x', n ∣ x'*g-1:=by
  intro k
  induction k with
  | zero=>intro a b x y I hk;exact⟨x,(mi_end I (by have:=I.b0;omega)).2⟩
  | succ k ih =>
   intro a b x y I hk
   by_cases hb:b=0
   ·exact⟨x,(mi_end I hb).2⟩
   ·refine ih _ _ _ _ (mi_step I hb) ?_
    have:=I.b0
    have h2:=Int.emod_lt_of_pos a (show 0<b by omega)
    have h1:=Int.emod_nonneg a hb
    omega
 obtain⟨x,hx⟩:=key n.toNat _ _ _ _ (mi_start hn h) (Nat.le_refl _)
 rw [← minv_of hn hx]
 refine⟨Int.emod_nonneg x (by omega),Int.emod_lt_of_pos x hn,?_⟩
 obtain⟨c,hc⟩:=hx
 refine⟨c-x/n*g,?_⟩
 have h3:x%n=x-n*(x/n):=by have:=Int.emod_add_mul_ediv x n;omega
 rw [h3];grind
theorem mi_hi{g n a b x y:Int}(I:MiI g n a b x y):hi a≤hi n∧hi b≤hi n∧hi x≤hi n∧hi y≤hi n∧(b≠0→hi (a/b)≤hi n):=by
 have m:∀ u:Int,u.natAbs≤n.natAbs→hi u≤hi n:=fun u h=>by unfold hi;have:=bl_mono h;omega
 have h1:=I.a0;have h2:=I.b0;have h3:=I.an;have h4:=I.bn
 refine⟨m a (by omega),m b (by omega),m x I.xn,m y I.yn,fun hb=>m _ ?_⟩
 have h5:0≤a/b:=Int.ediv_nonneg h1 h2
 have h6:a/b≤a:=Int.ediv_le_self b h1
 omega
theorem hi_mod(g:Int){n:Int}(h:0<n):hi (g%n)≤hi n:=by
 have h1:=Int.emod_nonneg g (show n≠0 by omega)
 have h2:=Int.emod_lt_of_pos g h
 unfold hi
 have:=bl_mono (show (g%n).natAbs≤n.natAbs by omega);omega
theorem mi_ne{b:Int}(h:(b.sign != 0)=true):b≠0:=by rintro rfl;revert h;decide
theorem mi_z{b:Int}(h:(b.sign != 0)=false):b=0:=by
 rw [bne_eq_false_iff_eq] at h;exact Int.sign_eq_zero_iff_zero.1 h
theorem mi_dec{g n a b x y:Int}(I:MiI g n a b x y)(h:(b.sign != 0)=true):(a%b).toNat<b.toNat:=by
 have h0:=I.b0
 have h1:=mi_ne h
 have h2:=Int.emod_lt_of_pos a (show 0<b by omega)
 have h3:=Int.emod_nonneg a h1
 omega
theorem mi_one{g n a b x y:Int}(I:MiI g n a b x y)(h:(b.sign != 0)=false):¬ (icmp a (1:Int) != 0)=true:=by
 rw [(mi_end I (mi_z h)).1];decide
theorem mi_fin{g n a b x y:Int}(hn:0<n)(I:MiI g n a b x y)(h:(b.sign != 0)=false):x%n=minv g n:=minv_of hn (mi_end I (mi_z h)).2
theorem quo_ne(x:Rat){y:Rat}(h:y≠0):(x.den:Int)*y.num≠0:=Int.mul_ne_zero (by have:=x.den_pos;omega) (fun e=>h (Rat.num_eq_zero.1 e))
section
variable {g n a b x y:Int}
theorem mi_pm(I:MiI g n a b x y)(p:hi g+hi n+hi n+hi n+8≤1099511627776)(hb:b≠0):hi (a/b)+hi y≤1099511627776:=by
 obtain⟨h1,h2,h3,h4,h5⟩:=mi_hi I;have:=h5 hb;omega
theorem mi_pd(I:MiI g n a b x y)(p:hi g+hi n+hi n+hi n+8≤1099511627776):hi a+hi b+4≤1099511627776:=by
 obtain⟨h1,h2,h3,h4,h5⟩:=mi_hi I;omega
theorem mi_ps(I:MiI g n a b x y)(p:hi g+hi n+hi n+hi n+8≤1099511627776)(hb:b≠0):hi x+hi (a/b*y)≤1099511627776:=by
 obtain⟨h1,h2,h3,h4,h5⟩:=mi_hi I;have:=h5 hb;have:=hi_mul (a/b) y;omega
theorem mi_px(I:MiI g n a b x y)(p:hi g+hi n+hi n+hi n+8≤1099511627776):hi x+hi n+4≤1099511627776:=by
 obtain⟨h1,h2,h3,h4,h5⟩:=mi_hi I;omega
theorem mi_pa(I:MiI g n a b x y)(p:hi g+hi n+hi n+hi n+8≤1099511627776):hi a+hi 1≤1099511627776:=by
 obtain⟨h1,h2,h3,h4,h5⟩:=mi_hi I;have:hi 1=2:=by decide
 omega
theorem mi_pg(p:hi g+hi n+hi n+hi n+8≤1099511627776):hi g+hi n+4≤1099511627776:=by omega
theorem mi_pn(p:hi g+hi n+hi n+hi n+8≤1099511627776):hi n≤1099511627776:=by omega
theorem mi_nz(h:0<n):n≠0:=by omega
end
end Go.Proofs.YtcdbmjnipaochaaGreat
namespace Go.Proofs.YtcdbmjnipaochaaGreat
open Go.RowKit Rgn
abbrev fdbl(n:Int):Rat:=((n+n:Int):Rat)
def Ci.fo(p q:Int):Ci:=⟨fdbl (q*q),⟨fdbl (p*q),1⟩,fdbl (p*p)⟩
abbrev fdet(x y:Rat):Int:=x.num*(y.den:Int)-(x.den:Int)*y.num
def fnbr(x y:Rat):Bool:=decide ((fdet x y).natAbs=1)
abbrev fbtw(x y:Rat):Rat:=Rat.divInt (x.num+y.num) ((x.den:Int)+(y.den:Int))
theorem ht_fdbl(n:Int):ht (fdbl n)≤hi n+hi n+1:=Nat.le_trans (ht_int_le _) (Nat.add_le_add_right (hi_add n n) 1)
theorem fo_eq(p q:Int):(Ci.mk (fdbl (q*q)) ((Cx.mk (fdbl (p*q)) 0).add (Cx.ofInt 0 1)) (fdbl (p*p)))=Ci.fo p q:=by
 unfold Ci.fo Cx.add Cx.ofInt
 have h1:fdbl (p*q)+((0:Int):Rat)=fdbl (p*q):=by grind
 have h2:(0:Rat)+((1:Int):Rat)=1:=by grind
 simp only [h1,h2]
theorem fo_ht(p q:Int):ht (Ci.fo p q).a+ht (Ci.fo p q).b.re+ht (Ci.fo p q).b.im+ht (Ci.fo p q).c≤6*hi p+6*hi q+6:=by
 have h1:=ht_fdbl (q*q);have h2:=ht_fdbl (p*q);have h3:=ht_fdbl (p*p)
 have g1:=hi_mul q q;have g2:=hi_mul p q;have g3:=hi_mul p p
 have o:ht (1:Rat)=2:=by decide
 show ht (fdbl (q*q))+ht (fdbl (p*q))+ht (1:Rat)+ht (fdbl (p*p))≤_
 omega
theorem den_add_ne(x y:Rat):(x.den:Int)+(y.den:Int)≠0:=by
 have:=x.den_pos;have:=y.den_pos;omega
theorem fdet_hi(x y:Rat):hi (fdet x y)≤ht x+ht y+ht x+ht y:=by
 have n0:=hi_num x;have n1:=hi_den x;have n2:=hi_num y;have n3:=hi_den y
 have h1:=hi_mul x.num (y.den:Int);have h2:=hi_mul (x.den:Int) y.num
 have h3:=hi_sub (x.num*(y.den:Int)) ((x.den:Int)*y.num)
 show hi (x.num*(y.den:Int)-(x.den:Int)*y.num)≤_
 omega
theorem fbtw_ht(x y:Rat):ht (fbtw x y)≤ht x+ht y+(ht x+ht y)+1:=by
 have n0:=hi_num x;have n1:=hi_den x;have n2:=hi_num y;have n3:=hi_den y
 have h2:=hi_add x.num y.num;have h3:=hi_add (x.den:Int) (y.den:Int)
 have hp:(0:Int)<(x.den:Int)+(y.den:Int):=by have:=x.den_pos;have:=y.den_pos;omega
 exact Nat.le_trans (ht_dvI (a:=x.num+y.num) hp (Nat.le_refl (max (hi (x.num+y.num)) (hi ((x.den:Int)+(y.den:Int)))))) (by omega)
theorem fnbr_1(x y:Rat):Value.tuple #[.bool (cmp3 (fdet x y).natAbs (1:Int).natAbs == 0),.int .i64 0]=.tuple #[.bool (fnbr x y),.int .i64 0]:=by
 congr 2;congr 1
 unfold fnbr
 rcases Nat.lt_trichotomy (fdet x y).natAbs 1 with h|h|h
 ·rw [show cmp3 (fdet x y).natAbs (Int.natAbs 1)=-1 from cmp3_lt h,decide_eq_false (by omega)];rfl
 ·rw [show cmp3 (fdet x y).natAbs (Int.natAbs 1)=0 from cmp3_eq h,decide_eq_true h];rfl
 ·rw [show cmp3 (fdet x y).natAbs (Int.natAbs 1)=1 from cmp3_gt h,decide_eq_false (by omega)];rfl
theorem fo_top:Ci.mk ((0:Int):Rat) (Cx.ofInt 0 1) ((2:Int):Rat)=Ci.fo 1 0:=by
 unfold Ci.fo Cx.ofInt;decide +kernel
theorem fmay_yes{x:Rat}(h:fits (rf x)=true):fmay (rf x)=true:=by rw [fmay_rf];exact h
theorem sgn_ne{a:Rat}(h:decide (a.num.sign≤0)=false):a≠0:=by rintro rfl;revert h;decide
def unB(d:Ci):Bool:=!decide (d.a.num.sign≤0)&&decide (Ci.fo (d.b.re/d.a).num ((d.b.re/d.a).den:Int)=d)
def unR(d:Ci):RF:=if unB d=true then fcut (d.b.re/d.a) else rz.re
def unE(d:Ci):Int:=if unB d=true then ferr (d.b.re/d.a) else 7
theorem unB_1{d:Ci}(h:decide (d.a.num.sign≤0)=true):unB d=false:=by unfold unB;rw [h];rfl
theorem unB_2{d:Ci}(h:decide (d.a.num.sign≤0)=false):unB d=decide (Ci.fo (d.b.re/d.a).num ((d.b.re/d.a).den:Int)=d):=by unfold unB;rw [h];rfl
theorem un_1{d:Ci}(h:decide (d.a.num.sign≤0)=true):Value.tuple #[rfV rz.re,.int .i64 7]=.tuple #[rfV (unR d),.int .i64 (unE d)]:=by
 unfold unR unE;rw [unB_1 h,if_neg (by decide),if_neg (by decide)]
theorem un_2{d:Ci}(h:decide (d.a.num.sign≤0)=false)(h1:decide (Ci.fo (d.b.re/d.a).num ((d.b.re/d.a).den:Int)=d)=true):Value.tuple #[rfV (fcut (d.b.re/d.a)),.int .i64 (ferr (d.b.re/d.a))]=.tuple #[rfV (unR d),.int .i64 (unE d)]:=by
 unfold unR unE;rw [unB_2 h,h1,if_pos rfl,if_pos rfl]
theorem un_3{d:Ci}(h:decide (d.a.num.sign≤0)=false)(h1:decide (Ci.fo (d.b.re/d.a).num ((d.b.re/d.a).den:Int)=d)=false):Value.tuple #[rfV rz.re,.int .i64 7]=.tuple #[rfV (unR d),.int .i64 (unE d)]:=by
 unfold unR unE;rw [unB_2 h,h1,if_neg (by decide),if_neg (by decide)]
theorem top_fits:cifits (rci (Ci.fo 1 0))=true:=by
 have h:=fo_ht 1 0
 have h1:hi 1=2:=by decide
 have h2:hi 0=1:=by decide
 unfold cifits
 rw [show fits (rci (Ci.fo 1 0)).a=true from fits_ht (by omega),show gfits (rci (Ci.fo 1 0)).b=true from gfits_ht ⟨by omega,by omega⟩,show fits (rci (Ci.fo 1 0)).c=true from fits_ht (by omega)];rfl
theorem top_eq:rciV (cicut (Ci.fo 1 0))=ciV (Ci.fo 1 0):=by
 unfold cicut;rw [if_pos top_fits]
theorem fo_dot(p q r s:Int):(Ci.fo p q).dot (Ci.fo r s)=((2*((p*s-q*r)*(p*s-q*r))-1:Int):Rat):=by
 unfold Ci.fo Ci.dot Cx.mul Cx.conj
 have h:Rat.divInt (1:Int) (2:Int)=1/2:=by decide +kernel
 rw [h]
 simp only [Rat.intCast_sub,Rat.intCast_mul,Rat.intCast_add,Rat.intCast_ofNat]
 grind
noncomputable def besS(p q:Int):Int:=if q=1 then 1 else minv (-p) q
noncomputable def besR(p q:Int):Int:=(p*besS p q+1).tdiv q
theorem bes_1{p q:Int}(h:(q == 1)=true):besS p q=1:=by unfold besS;rw [if_pos (by simpa using h)]
theorem bes_0{p q:Int}(h:(q == 1)=false):besS p q=minv (-p) q:=by unfold besS;rw [if_neg (by simpa using h)]
theorem bes_s1{p q:Int}(h:(q == 1)=true):(1:Int)=besS p q:=(bes_1 h).symm
theorem bes_s0{p q:Int}(h:(q == 1)=false):minv (-p) q=besS p q:=(bes_0 h).symm
theorem bes_r1{p q:Int}(h:(q == 1)=true):(p*1+1).tdiv q=besR p q:=by unfold besR;rw [bes_1 h]
theorem bes_r0{p q:Int}(h:(q == 1)=false):(p*minv (-p) q+1).tdiv q=besR p q:=by unfold besR;rw [bes_0 h]
theorem gcd_nm{p q:Int}(h:Int.gcd p q=1):Int.gcd (-p) q=1:=by rw [Int.neg_gcd];exact h
theorem bes_ok{p q:Int}(hq:0<q)(h:Int.gcd p q=1):1≤besS p q∧besS p q≤q∧besR p q*q=p*besS p q+1:=by
 by_cases e:q=1
 ·subst e
  have e1:besS p 1=1:=bes_1 rfl
  refine⟨by omega,by omega,?_⟩
  unfold besR;rw [e1,Int.tdiv_one];omega
 ·have e0:besS p q=minv (-p) q:=bes_0 (by simpa using e)
  obtain⟨h1,h2,h3⟩:=minv_ok hq (gcd_nm h)
  rw [← e0] at h1 h2 h3
  have h4:q ∣ p*besS p q+1:=by
   obtain⟨c,hc⟩:=h3
   exact⟨-c,by grind⟩
  refine⟨?_,by omega,?_⟩
  ·rcases Int.lt_or_le 0 (besS p q) with h5|h5
   ·omega
   ·have h6:besS p q=0:=by omega
    rw [h6,Int.mul_zero,Int.zero_add] at h4
    have:=Int.le_of_dvd (by decide) h4
    omega
  ·unfold besR;exact Int.tdiv_mul_cancel h4
theorem hi_le{n:Int}{k:Nat}(h:n.natAbs<2^k):hi n≤k+1:=by
 unfold hi bl
 split
 ·omega
 ·rename_i h0
  have:=(Nat.log2_lt h0).2 h
  omega
theorem hi_small{q:Int}(h:0<q)(h1:q≤100000):hi q≤18:=hi_le (k:=17) (by omega)
theorem bes_hi{p q:Int}(hq:0<q)(h1:q≤100000)(h:Int.gcd p q=1):hi (besS p q)≤18:=by
 obtain⟨h2,h3,_⟩:=bes_ok hq h
 exact hi_small (by omega) (by omega)
noncomputable abbrev fnxt(p q n:Int):Rat:=Rat.divInt (besR p q+(n-besS p q)/q*p) (besS p q+(n-besS p q)/q*q)
theorem nx_q{p q n:Int}(hq:0<q)(h:Int.gcd p q=1)(hn:q≤n):0≤n-besS p q∧0≤(n-besS p q)/q∧(n-besS p q)/q≤n-besS p q∧n-q<besS p q+(n-besS p q)/q*q∧besS p q+(n-besS p q)/q*q≤n:=by
 obtain⟨h1,h2,_⟩:=bes_ok hq h
 have h3:0≤n-besS p q:=by omega
 have h4:=Int.ediv_nonneg h3 (Int.le_of_lt hq)
 have h5:=Int.ediv_le_self q h3
 have h6:=Int.emod_add_mul_ediv (n-besS p q) q
 have h7:=Int.emod_nonneg (n-besS p q) (show q≠0 by omega)
 have h8:=Int.emod_lt_of_pos (n-besS p q) hq
 rw [Int.mul_comm] at h6
 exact⟨h3,h4,h5,by omega,by omega⟩
theorem nx_ne{p q n:Int}(hq:0<q)(h:Int.gcd p q=1)(hn:q≤n):besS p q+(n-besS p q)/q*q≠0:=by
 obtain⟨h1,h2,h3,h4,h5⟩:=nx_q hq h hn
 obtain⟨k1,_,_⟩:=bes_ok hq h
 have:=Int.mul_nonneg h2 (Int.le_of_lt hq)
 omega
theorem bes_rhi{p q:Int}(hq:0<q)(h1:q≤100000)(h:Int.gcd p q=1):hi (besR p q)≤hi p+21:=by
 have h2:=bes_hi hq h1 h
 have h3:=hi_mul p (besS p q)
 have h4:=hi_add (p*besS p q) 1
 have h5:hi 1=2:=by decide
 have h6:=hi_tdiv (p*besS p q+1) q
 unfold besR
 omega
theorem nx_hi{p q n:Int}(hq:0<q)(h1:q≤100000)(h:Int.gcd p q=1)(hn:q≤n)(h2:n≤100000):hi n≤18∧hi (besS p q)≤18∧hi (besR p q)≤hi p+21∧hi (n-besS p q)≤18∧hi ((n-besS p q)/q)≤18∧hi ((n-besS p q)/q*q)≤36∧hi ((n-besS p q)/q*p)≤18+hi p∧hi (besS p q+(n-besS p q)/q*q)≤18∧hi (besR p q+(n-besS p q)/q*p)≤2*hi p+39:=by
 obtain⟨k1,k2,k3,k4,k5⟩:=nx_q hq h hn
 obtain⟨l1,l2,_⟩:=bes_ok hq h
 have m1:hi (n-besS p q)≤18:=hi_le (k:=17) (by omega)
 have m2:hi ((n-besS p q)/q)≤18:=hi_le (k:=17) (by omega)
 have m3:=hi_mul ((n-besS p q)/q) q
 have m4:=hi_mul ((n-besS p q)/q) p
 have m5:=bes_rhi hq h1 h
 have m6:=hi_add (besR p q) ((n-besS p q)/q*p)
 have m7:=hi_small hq h1
 have m8:=Int.mul_nonneg k2 (Int.le_of_lt hq)
 exact⟨hi_le (k:=17) (by omega),bes_hi hq h1 h,m5,m1,m2,by omega,by omega,hi_le (k:=17) (by omega),by omega⟩
theorem fnxt_ht{p q n:Int}(hq:0<q)(h1:q≤100000)(h:Int.gcd p q=1)(hn:q≤n)(h2:n≤100000):ht (fnxt p q n)≤2*hi p+60:=by
 obtain⟨_,_,_,_,_,_,_,e1,e2⟩:=nx_hi hq h1 h hn h2
 obtain⟨k1,k2,k3,k4,k5⟩:=nx_q hq h hn
 have hp:0<besS p q+(n-besS p q)/q*q:=by
  have:=nx_ne hq h hn
  obtain⟨l1,_,_⟩:=bes_ok hq h
  have:=Int.mul_nonneg k2 (Int.le_of_lt hq)
  omega
 exact Nat.le_trans (ht_dvI (a:=besR p q+(n-besS p q)/q*p) hp (Nat.le_refl _)) (by omega)
theorem bLsh1{S:Nat→Prop}{W:World}{z:Nat}{v1:Value}(x:Int)(hz:IntBlk W z)(t1:(IntP x).p S v1 W)(p0:hi x≤1099511627000):Calls Tryz.prog 260 #[.pointer (some ⟨z,0,none⟩),v1,.int .u64 1] W (RetOwn z (IntO (x+x)) W):=by
 have h:=bLsh (n:=1) x (hz:=hz) (t1:=t1) (by omega) (by decide) (by decide)
 have e:x*2^(1:Int).toNat=x+x:=by
  have:(2:Int)^(1:Int).toNat=2:=by decide
  rw [this];omega
 rw [e] at h
 exact h
theorem bNewI{S:Nat→Prop}{W:World}(n:Int)(p0:-9223372036854775808≤n)(p1:n≤9223372036854775807):Calls Tryz.prog 148 #[.int .i64 n] W (Ret (IntO n) S W):=bNewInt n p0 p1
theorem bNegI{S:Nat→Prop}{W:World}{z:Nat}{v1:Value}(x:Int)(hz:IntBlk W z)(t1:(IntP x).p S v1 W)(p0:hi x≤1099511627776):Calls Tryz.prog 207 #[.pointer (some ⟨z,0,none⟩),v1] W (RetOwn z (IntO (-x)) W):=bNeg (x:=x) (hz:=hz) (t1:=t1) p0
theorem bLow{S:Nat→Prop}{W:World}{v0:Value}(x:Int)(t0:(IntP x).p S v0 W)(p0:0<x)(p1:x<4294967296):Calls Tryz.prog 325 #[v0] W (RetV (.int .u64 x) W):=by
 obtain⟨b,ob,rfl,L_b,F_b⟩:=IntP.elim t0
 obtain⟨v,hc1,hM⟩:=IntP.c1 (k:=ob+1) F_b rfl
 have hb:bl x.natAbs≤32:=by
  have:=hi_le (n:=x) (k:=32) (by omega)
  unfold hi at this;omega
 obtain⟨l,hW,hC,hv,hl⟩:=hM.wordsK 1 hb
 match l,hl with
 | [],_=>exfalso;have:(0:Nat)=x.natAbs:=hv;omega
 | [t],_ =>
  have hx:t<4294967296:=by have:=hW.bd.getD 0;simpa using this
  have ht:x=(t:Int):=by
   have:t+4294967296*0=x.natAbs:=hv
   omega
  obtain⟨a,c,rfl,h1,h2⟩:=hW.len
  obtain⟨b', off,rfl,hca⟩:=hW.at (k:=0) (by simp)
  rw [Nat.add_zero] at hca
  have hca:W.cell? ⟨b', off,none⟩=some (.int .u32 (t:Nat)):=hca
  subst ht
  have hw1:IntKind.u64.wrap (t:Int)=(t:Int):=by rw [IntKind.wrap_u64];omega
  have hb1:bits .or .u64 (0:Int) (t:Int)=(t:Int):=by
   have:=(bits_nat .u64 64 (by decide) wraps_u64 0 t (by omega) (by omega)).2
   simpa using this
  clear hM hv hW hC F_b L_b t0 p0 p1 hb
  go_enter Tryz.func325,Tryz.ntmps325
  go_wp2_with fail
  exact ret_ok rfl (by exact results_tmp' rfl rfl) (RetV.mk (by first|rfl|simp [hb1]) (Below.refl _ _))
theorem bInt64{S:Nat→Prop}{W:World}{v0:Value}(x:Int)(t0:(IntP x).p S v0 W)(p0:0<x)(p1:x<4294967296):Calls Tryz.prog 316 #[v0] W (RetV (.int .i64 x) W):=by
 have hL:=fun w' (h:Below W.heap.size W w')=>h
 have hO:=bLow x t0 p0 p1
 obtain⟨b,ob,rfl,L_b,F_b⟩:=IntP.elim t0
 have hc0:=IntP.c0 (k:=ob) F_b rfl
 obtain⟨cs,T,vv,g1,g2,g3,g4⟩:=IntP.in F_b
 have hlt:decide (x<0)=false:=decide_eq_false (by omega)
 rw [hlt] at hc0
 have hw:IntKind.i64.wrap x=x:=Eng.wrap_62 (by omega) (by omega)
 clear hlt p0 p1 g3 g4 t0
 go_enter Tryz.func316,Tryz.ntmps316
 go_wp2_with fail
 go_call hO as _ w1 h
 obtain⟨rfl,hb⟩:=h.is
 have hc0' : w1.cell? ⟨b,ob,none⟩=some (.bool false):=by
  unfold World.cell? at hc0 ⊢;rw [hb.block b (lt_of g1)];exact hc0
 go_wp2_with fail
 exact ret_ok rfl (by exact results_tmp' rfl rfl) (RetV.mk rfl hb)
theorem bIs64{S:Nat→Prop}{W:World}{v0:Value}(x:Int)(t0:(IntP x).p S v0 W)(p0:0<x)(p1:x<4294967296):Calls Tryz.prog 315 #[v0] W (RetV (.bool true) W):=by
 have hO:=bLow x t0 p0 p1
 obtain⟨b,ob,rfl,L_b,F_b⟩:=IntP.elim t0
 obtain⟨v,hc1,hM⟩:=IntP.c1 (k:=ob+1) F_b rfl
 obtain⟨cs,T,vv,g1,g2,g3,g4⟩:=IntP.in F_b
 have hb:bl x.natAbs≤32:=by
  have:=hi_le (n:=x) (k:=32) (by omega)
  unfold hi at this;omega
 obtain⟨l,hW,hC,hv,hl⟩:=hM.wordsK 1 hb
 obtain⟨a,c,rfl,h1,h2⟩:=hW.len
 have hlen:(l.length:Int)≤2:=by omega
 have hx:x<9223372036854775808:=by omega
 clear hM hv hW hC F_b L_b t0 p0 p1 hb g2 g3 g4 h1 h2
 generalize l.length=k at *
 go_enter Tryz.func315,Tryz.ntmps315
 go_wp2_with fail
 go_call hO as _ w1 h
 obtain⟨rfl,hb⟩:=h.is
 have hc1' : w1.cell? ⟨b,ob+1,none⟩=some (.slice a k c):=by
  unfold World.cell? at hc1 ⊢;rw [hb.block b (lt_of g1)];exact hc1
 go_wp2_with fail
 exact ret_ok rfl (by exact results_tmp' rfl rfl) (RetV.mk rfl hb)
end Go.Proofs.YtcdbmjnipaochaaGreat
namespace Go.Proofs.YtcdbmjnipaochaaGreat
open Go.RowKit Rgn
variable {S:Nat→Prop} {W:World}
theorem bCmpAbs{v0 v1:Value}(x y:Int)(t0:(IntP x).p S v0 W)(t1:(IntP y).p S v1 W):Calls Tryz.prog 147 #[v0,v1] W (RetV (.int .i64 (cmp3 x.natAbs y.natAbs)) W):=by
 obtain⟨b1,ob1,rfl,L1,F1⟩:=IntP.elim t0
 replace L1:Amb S W b1:=.inl L1
 obtain⟨b2,ob2,rfl,L2,F2⟩:=IntP.elim t1
 replace L2:Amb S W b2:=.inl L2
 have bel:=b0 W
 go_enter Tryz.func147,Tryz.ntmps147
 refine gs 1 (Amb S W) fun _ K3=>?_
 refine .mc rfl ?_
 refine .dk (fun u=>.pointer (some ⟨b1,ob1,none⟩)::.pointer (some ⟨b2,ob2,none⟩)::U::U::u 0::us 9) K3 bel fun u1 w1 D bel=>?_
 have E1_0:=D.q 0
 replace F1:=D.o L1 F1
 replace F2:=D.o L2 F2
 clear D
 refine gd 10 (Amb S W) fun _ K4=>?_
 refine .mz rfl 0 (V:=.pointer (some ⟨b1,ob1,none⟩)) rfl ?_
 refine .nc rfl 0 ?_
 refine .fj rfl 1 (ob1+1) ?_
 refine Go2.fn (i:=3) rfl (G0 rfl) (.val 3 [] (MagP x.natAbs)) (fun u μ ρ H=>by have e7:=H.g 7 2;obtain⟨v_,c1,hm_⟩:=IntP.c1 (k:=ob1+1) (VP.any _ (H.was _ [] (VP.at F1 L1))) rfl;exact⟨v_,by clear H hm_;go_simp,SP.magVal hm_⟩) ?_
 refine .mz rfl 1 (V:=.pointer (some ⟨b2,ob2,none⟩)) rfl ?_
 refine .nc rfl 4 ?_
 refine .fj rfl 5 (ob2+1) ?_
 refine Go2.fn (i:=7) rfl (G0 rfl) (.val 7 [] (MagP y.natAbs)) (fun u μ ρ H=>by have e11:=H.g 11 6;obtain⟨v_,c1,hm_⟩:=IntP.c1 (k:=ob2+1) (VP.any _ (H.was _ [] (VP.at F2 L2))) rfl;exact⟨v_,by clear H hm_;go_simp,SP.magVal hm_⟩) ?_
 refine .cK rfl Tryz.func255 (fun H=>⟨_,ar2 (H.r 8 3) (H.r 12 7),bUnder _ _ (SV.any (H.a 3 rfl)) (SV.any (H.a 7 rfl))⟩) ?_
 refine .mv rfl 8 ?_
 refine .dk (fun u=>.pointer (some ⟨b1,ob1,none⟩)::.pointer (some ⟨b2,ob2,none⟩)::U::U::u 9::sq u 0 9 []) K4 bel fun u2 w2 D bel=>?_
 have E2_9:=D.q 9
 clear D
 exact wp_ret (rt rfl E2_9 rfl bel)
theorem bMod{z:Nat}{v1 v2:Value}(x y:Int)(hz:IntBlk W z)(t1:(IntP x).p S v1 W)(t2:(IntP y).p S v2 W)(p0:hi x+hi y+4≤1099511627776)(p1:y≠0):Calls Tryz.prog 324 #[.pointer (some ⟨z,0,none⟩),v1,v2] W (RetOwn z (IntO (x%y)) W):=by
 have hS_:∃ S' : Nat→Prop,S' z∧(IntP x).p S' v1 W∧(IntP y).p S' v2 W:=⟨fun k=>S k∨k=z,.inr rfl,(IntP x).mono (fun _ _ h=>.inl h) t1,(IntP y).mono (fun _ _ h=>.inl h) t2⟩
 clear t1 t2
 obtain⟨S,L_z,t1,t2⟩:=hS_
 replace L_z:Amb S W z:=.inl L_z
 obtain⟨z_0,z_1,B_z⟩:=hz
 obtain⟨b1,ob1,rfl,L1,F1⟩:=IntP.elim t1
 replace L1:Amb S W b1:=.inl L1
 obtain⟨b2,ob2,rfl,L2,F2⟩:=IntP.elim t2
 replace L2:Amb S W b2:=.inl L2
 have bel:Only z W W:=Only.refl _ _
 go_enter Tryz.func324,Tryz.ntmps324
 refine gs 1 (Amb S W) fun _ K3=>?_
 refine .mc rfl ?_
 refine .dg (fun u=>pt z::.pointer (some ⟨b1,ob1,none⟩)::.pointer (some ⟨b2,ob2,none⟩)::U::U::U::u 0::us 6) K3 bel.size fun u1 w1 D=>?_
 have E1_0:=D.q 0
 replace B_z:=D.k B_z
 replace F1:=D.o L1 F1
 replace F2:=D.o L2 F2
 replace bel:=D.d.base.only0 bel
 clear D
 refine wp_seq_k fun _ K4=>?_
 refine go2_seqT 4 1 rfl (Amb S W) [] [] (Olds.nil _) (by kernel_rfl) ?_
 refine .al rfl zI ?_
 refine .mz rfl 1 (V:=.pointer (some ⟨b1,ob1,none⟩)) rfl ?_
 refine .mz rfl 2 (V:=.pointer (some ⟨b2,ob2,none⟩)) rfl ?_
 refine .mz rfl 0 (V:=pt z) rfl ?_
 refine .dT (fun u=>pt z::.pointer (some ⟨b1,ob1,none⟩)::.pointer (some ⟨b2,ob2,none⟩)::U::U::U::u1 0::sq u 0 5 (U::[])) bel.size _ rfl fun u2 w2 D=>?_
 obtain⟨b5,E2_0,A5,B5⟩:=D.nw 0
 have E2_1:=D.q 1
 have E2_2:=D.q 2
 have E2_3:=D.q 3
 have N_z_b5:=D.n1 0 (lt_of B_z) E2_0
 replace B_z:=D.k B_z
 replace F1:=D.o L1 F1
 replace F2:=D.o L2 F2
 replace bel:=D.d.base.only0 bel
 clear D
 refine wpT_callO2 (args:=#[pt b5,.pointer (some ⟨b1,ob1,none⟩),.pointer (some ⟨b2,ob2,none⟩),pt z]) rfl (ex_call rfl rfl Tryz.func289 (by kernel_rfl) (by kernel_rfl) (by simp only [List.map_toArray,List.map_cons,List.map_nil];show #[(u2 0).v,(u2 1).v,(u2 2).v,(u2 3).v]=#[pt b5,.pointer (some ⟨b1,ob1,none⟩),.pointer (some ⟨b2,ob2,none⟩),pt z];rw [E2_0,E2_1,E2_2,E2_3])) (bDivMod (z:=b5) (x:=x) (y:=y) (r:=z) (IntBlk.of B5) (VP.any _ F1) (VP.any _ F2) (IntBlk.of B_z) (Ne.symm N_z_b5) (by first|omega|exact p1) (by first|omega|exact p1)) fun w6 fw6a fw6b ow6=>?_
 have sw6_b5:Soft w2 b5∨Local w2 b5:=.inl ⟨_,_,B5,rfl⟩
 have sw6_z:Soft w2 z∨Local w2 z:=.inl ⟨_,_,B_z,rfl⟩
 have F5:=fw6a
 have L5:Amb S W b5:=.inr A5
 have F_z:=fw6b
 replace bel:=ow6.swap.drop bel A5
 refine wpList_nil ?_
 show _
 refine K4 _ _ ?_
 refine gs 2 (Amb S W) fun _ K7=>?_
 refine .mz rfl 0 (V:=pt z) rfl ?_
 refine .mv rfl 0 ?_
 refine .dg (fun u=>pt z::.pointer (some ⟨b1,ob1,none⟩)::.pointer (some ⟨b2,ob2,none⟩)::U::U::U::u 1::sq u2 0 4 (.tuple #[pt b5,pt z]::u 0::[])) K7 bel.size fun u3 w3 D=>?_
 have E3_1:=D.q 1
 replace F_z:=D.o L_z F_z
 replace bel:=D.d.base.only0 bel
 clear D
 refine wp_ret ?_
 refine ret_ok rfl (by exact results_tmp' rfl (by exact E3_1)) ⟨rfl,?_,bel⟩
 exact F_z
theorem qQuo{z:Nat}{v1 v2:Value}(x y:Rat)(hz:RatBlk W z)(t1:(RatP x).p S v1 W)(t2:(RatP y).p S v2 W)(p0:ht x+ht y≤68719476736)(p1:y≠0):Calls Tryz.prog 142 #[.pointer (some ⟨z,0,none⟩),v1,v2] W (RetOwn z (RatP (x/y)) W):=by
 have hS_:∃ S' : Nat→Prop,S' z∧(RatP x).p S' v1 W∧(RatP y).p S' v2 W:=⟨fun k=>S k∨k=z,.inr rfl,(RatP x).mono (fun _ _ h=>.inl h) t1,(RatP y).mono (fun _ _ h=>.inl h) t2⟩
 clear t1 t2
 obtain⟨S,L_z,t1,t2⟩:=hS_
 replace L_z:Amb S W z:=.inl L_z
 obtain⟨z_0,z_1,z_2,z_3,B_z⟩:=hz
 obtain⟨b1,rfl,L1,F1⟩:=RatP.elim t1
 replace L1:Amb S W b1:=.inl L1
 obtain⟨b2,rfl,L2,F2⟩:=RatP.elim t2
 replace L2:Amb S W b2:=.inl L2
 have n0:=hi_num x
 have n1:=hi_num y
 have n2:=hi_den x
 have n3:=hi_den y
 have m0:=hi_mul x.num (y.den:Int)
 have m2:=hi_mul (x.den:Int) y.num
 have bel:Only z W W:=Only.refl _ _
 go_enter Tryz.func142,Tryz.ntmps142
 refine gs 1 (Amb S W) fun _ K3=>?_
 refine .mc rfl ?_
 refine .dg (fun u=>pt z::pt b1::pt b2::U::U::U::u 0::us 16) K3 bel.size fun u1 w1 D=>?_
 have E1_0:=D.q 0
 replace B_z:=D.k B_z
 replace F1:=D.o L1 F1
 replace F2:=D.o L2 F2
 replace bel:=D.d.base.only0 bel
 clear D
 refine wp_seq_k fun _ K4=>?_
 refine go2_drawnT (by kernel_rfl) 15 2 rfl (by decide) (by kernel_rfl) (Amb S W) [] [] (Olds.nil _) (by kernel_rfl) ?_
 refine .mz rfl 0 (V:=pt z) rfl ?_
 refine .al rfl zI ?_
 refine .mz rfl 1 (V:=pt b1) rfl ?_
 refine .nc rfl 2 ?_
 refine .fj rfl 3 0 ?_
 refine .mz rfl 2 (V:=pt b2) rfl ?_
 refine .cR rfl [] Tryz.func222 (fun H=>⟨_,ar1 (H.g 12 5),bDen _ (H.was _ [] (VP.at F2 L2))⟩) ?_
 refine .cO rfl 1 Tryz.func221 (fun H h0 hz=>⟨_,ar3 (H.p 8 1 h0) (H.g 11 4) (H.r 13 6),bMul _ _ (IntBlk.of hz) (RatP.num (VP.any _ (H.was _ [] (VP.at F1 L1)))) (SV.any (H.a 6 rfl)) (by first|omega|exact quo_ne x p1)⟩) ?_
 refine .al rfl zI ?_
 refine .mz rfl 1 (V:=pt b1) rfl ?_
 refine .cR rfl [] Tryz.func222 (fun H=>⟨_,ar1 (H.g 16 9),bDen _ (H.was _ [] (VP.at F1 L1))⟩) ?_
 refine .mz rfl 2 (V:=pt b2) rfl ?_
 refine .nc rfl 11 ?_
 refine .fj rfl 12 0 ?_
 refine .cO rfl 8 Tryz.func221 (fun H h0 hz=>⟨_,ar3 (H.p 15 8 h0) (H.r 17 10) (H.g 20 13),bMul _ _ (IntBlk.of hz) (SV.any (H.a 10 rfl)) (RatP.num (VP.any _ (H.was _ [] (VP.at F2 L2)))) (by first|omega|exact quo_ne x p1)⟩) ?_
 refine .dT (fun u=>pt z::pt b1::pt b2::U::U::U::u 16::sq u 0 16 []) bel.size _ rfl fun u2 w2 D=>?_
 obtain⟨b5,E2_7,A5,F5⟩:=D.ow 7
 obtain⟨b6,E2_14,A6,F6⟩:=D.ow 14
 have E2_0:=D.q 0
 have N_z_b5:=D.n1 1 (lt_of B_z) ((D.a 7 rfl).1.symm.trans E2_7)
 have N_z_b6:=D.n1 8 (lt_of B_z) ((D.a 14 rfl).1.symm.trans E2_14)
 replace B_z:=D.k B_z
 have L5:Amb S W b5:=.inr A5
 have L6:Amb S W b6:=.inr A6
 replace bel:=D.d.base.only0 bel
 clear D
 refine wpT_callO (args:=#[pt z,pt b5,pt b6]) rfl (ex_call rfl rfl Tryz.func150 (by kernel_rfl) (by kernel_rfl) (by simp only [List.map_toArray,List.map_cons,List.map_nil];show #[(u2 0).v,(u2 7).v,(u2 14).v]=#[pt z,pt b5,pt b6];rw [E2_0,E2_7,E2_14])) (qSetFrac (z:=z) (x:=x.num*(y.den:Int)) (y:=(x.den:Int)*y.num) (RatBlk.of B_z) (IntO.p (VP.any _ F5)) (IntO.p (VP.any _ F6)) (by first|omega|exact quo_ne x p1) (by first|omega|exact quo_ne x p1)) fun w7 fw7 ow7=>?_
 have sw7:Soft w2 z∨Local w2 z:=.inl ⟨_,_,B_z,rfl⟩
 replace F5:=ow7.one sw7 _ (Ne.symm N_z_b5) F5
 replace F6:=ow7.one sw7 _ (Ne.symm N_z_b6) F6
 have F_z:=fw7
 replace bel:=bel.trans ow7
 refine wpT_val rfl (ex_assign rfl) ?_
 refine wpList_nil ?_
 show _
 refine K4 _ _ ?_
 refine wp_ret ?_
 refine ret_ok rfl (by exact results_tmp' rfl rfl) ⟨rfl,?_,bel⟩
 exact rat_eq (fr_over x y) F_z
theorem bModInv{z:Nat}{v1 v2:Value}(g n:Int)(hz:IntBlk W z)(t1:(IntP g).p S v1 W)(t2:(IntP n).p S v2 W)(p0:hi g+hi n+hi n+hi n+8≤1099511627776)(p1:0<n)(p2:Int.gcd g n=1):Calls Tryz.prog 314 #[.pointer (some ⟨z,0,none⟩),v1,v2] W (RetOwn z (IntO (minv g n)) W):=by
 have hS_:∃ S' : Nat→Prop,S' z∧(IntP g).p S' v1 W∧(IntP n).p S' v2 W:=⟨fun k=>S k∨k=z,.inr rfl,(IntP g).mono (fun _ _ h=>.inl h) t1,(IntP n).mono (fun _ _ h=>.inl h) t2⟩
 clear t1 t2
 obtain⟨S,L_z,t1,t2⟩:=hS_
 replace L_z:Amb S W z:=.inl L_z
 obtain⟨z_0,z_1,B_z⟩:=hz
 obtain⟨b1,ob1,rfl,L1,F1⟩:=IntP.elim t1
 replace L1:Amb S W b1:=.inl L1
 obtain⟨b2,ob2,rfl,L2,F2⟩:=IntP.elim t2
 replace L2:Amb S W b2:=.inl L2
 have q0:=hi_mod g p1
 have bel:Only z W W:=Only.refl _ _
 go_enter Tryz.func314,Tryz.ntmps314
 refine gs 1 (Amb S W) fun _ K3=>?_
 refine .mc rfl ?_
 refine .dg (fun u=>pt z::.pointer (some ⟨b1,ob1,none⟩)::.pointer (some ⟨b2,ob2,none⟩)::U::U::U::u 0::us 44) K3 bel.size fun u1 w1 D=>?_
 have E1_0:=D.q 0
 replace B_z:=D.k B_z
 replace F1:=D.o L1 F1
 replace F2:=D.o L2 F2
 replace bel:=D.d.base.only0 bel
 clear D
 refine gs 9 (Amb S W) fun _ K4=>?_
 refine .al rfl zI ?_
 refine .mz rfl 1 (V:=.pointer (some ⟨b1,ob1,none⟩)) rfl ?_
 refine .mz rfl 2 (V:=.pointer (some ⟨b2,ob2,none⟩)) rfl ?_
 refine .cO rfl 0 Tryz.func324 (fun H h0 hz=>⟨_,ar3 (H.p 13 0 h0) (H.g 14 1) (H.g 15 2),bMod _ _ (IntBlk.of hz) (VP.any _ (H.was _ [] (VP.at F1 L1))) (VP.any _ (H.was _ [] (VP.at F2 L2))) (by first|with_reducible exact mi_pg p0|with_reducible exact mi_pn p0|with_reducible exact mi_nz p1|with_reducible exact mi_pd i0 p0|with_reducible exact mi_pm i0 p0 (mi_ne x_x)|with_reducible exact mi_ps i0 p0 (mi_ne x_x)|with_reducible exact mi_px i0 p0|with_reducible exact mi_pa i0 p0|with_reducible exact mi_ne x_x|decide) (by first|with_reducible exact mi_pg p0|with_reducible exact mi_pn p0|with_reducible exact mi_nz p1|with_reducible exact mi_pd i0 p0|with_reducible exact mi_pm i0 p0 (mi_ne x_x)|with_reducible exact mi_ps i0 p0 (mi_ne x_x)|with_reducible exact mi_px i0 p0|with_reducible exact mi_pa i0 p0|with_reducible exact mi_ne x_x|decide)⟩) ?_
 refine .al rfl zI ?_
 refine .mz rfl 2 (V:=.pointer (some ⟨b2,ob2,none⟩)) rfl ?_
 refine .cO rfl 4 Tryz.func252 (fun H h0 hz=>⟨_,ar2 (H.p 17 4 h0) (H.g 18 5),bSet _ (IntBlk.of hz) (VP.any _ (H.was _ [] (VP.at F2 L2))) (by first|with_reducible exact mi_pg p0|with_reducible exact mi_pn p0|with_reducible exact mi_nz p1|with_reducible exact mi_pd i0 p0|with_reducible exact mi_pm i0 p0 (mi_ne x_x)|with_reducible exact mi_ps i0 p0 (mi_ne x_x)|with_reducible exact mi_px i0 p0|with_reducible exact mi_pa i0 p0|with_reducible exact mi_ne x_x|decide)⟩) ?_
 refine .mo rfl 3 ?_
 refine .mo rfl 6 ?_
 refine .dg (fun u=>pt z::.pointer (some ⟨b1,ob1,none⟩)::.pointer (some ⟨b2,ob2,none⟩)::U::U::U::u1 0::u 7::u 8::U::U::U::U::sq u 0 7 (us 31)) K4 bel.size fun u2 w2 D=>?_
 obtain⟨b5,E2_7,A5,F5⟩:=D.ow 7
 obtain⟨b6,E2_8,A6,F6⟩:=D.ow 8
 have N_z_b5:=D.n1 0 (lt_of B_z) ((D.a 7 rfl).1.symm.trans E2_7)
 have N_z_b6:=D.n1 4 (lt_of B_z) ((D.a 8 rfl).1.symm.trans E2_8)
 replace B_z:=D.k B_z
 replace F2:=D.o L2 F2
 have L5:Amb S W b5:=.inr A5
 have L6:Amb S W b6:=.inr A6
 replace bel:=D.d.base.only0 bel
 clear D
 refine gs 4 (Amb S W) fun _ K7=>?_
 refine .cR rfl [] Tryz.func148 (fun H=>⟨_,ar1 (H.c (.int .i64 1)),bNewInt _ (by first|with_reducible exact mi_pg p0|with_reducible exact mi_pn p0|with_reducible exact mi_nz p1|with_reducible exact mi_pd i0 p0|with_reducible exact mi_pm i0 p0 (mi_ne x_x)|with_reducible exact mi_ps i0 p0 (mi_ne x_x)|with_reducible exact mi_px i0 p0|with_reducible exact mi_pa i0 p0|with_reducible exact mi_ne x_x|decide) (by first|with_reducible exact mi_pg p0|with_reducible exact mi_pn p0|with_reducible exact mi_nz p1|with_reducible exact mi_pd i0 p0|with_reducible exact mi_pm i0 p0 (mi_ne x_x)|with_reducible exact mi_ps i0 p0 (mi_ne x_x)|with_reducible exact mi_px i0 p0|with_reducible exact mi_pa i0 p0|with_reducible exact mi_ne x_x|decide)⟩) ?_
 refine .cR rfl [] Tryz.func148 (fun H=>⟨_,ar1 (H.c (.int .i64 0)),bNewInt _ (by first|with_reducible exact mi_pg p0|with_reducible exact mi_pn p0|with_reducible exact mi_nz p1|with_reducible exact mi_pd i0 p0|with_reducible exact mi_pm i0 p0 (mi_ne x_x)|with_reducible exact mi_ps i0 p0 (mi_ne x_x)|with_reducible exact mi_px i0 p0|with_reducible exact mi_pa i0 p0|with_reducible exact mi_ne x_x|decide) (by first|with_reducible exact mi_pg p0|with_reducible exact mi_pn p0|with_reducible exact mi_nz p1|with_reducible exact mi_pd i0 p0|with_reducible exact mi_pm i0 p0 (mi_ne x_x)|with_reducible exact mi_ps i0 p0 (mi_ne x_x)|with_reducible exact mi_px i0 p0|with_reducible exact mi_pa i0 p0|with_reducible exact mi_ne x_x|decide)⟩) ?_
 refine .mn rfl 0 [0] ?_
 refine .mn rfl 1 [1] ?_
 refine .dg (fun u=>pt z::.pointer (some ⟨b1,ob1,none⟩)::.pointer (some ⟨b2,ob2,none⟩)::U::U::U::u1 0::u2 7::u2 8::u 2::u 3::U::U::sq u2 0 7 (u 0::u 1::us 29)) K7 bel.size fun u3 w3 D=>?_
 obtain⟨b8,E3_2,L8,F8⟩:=IntO.elim (D.rr 2)
 obtain⟨b9,E3_3,L9,F9⟩:=IntO.elim (D.rr 3)
 replace B_z:=D.k B_z
 replace F2:=D.o L2 F2
 replace F5:=D.o L5 F5
 replace F6:=D.o L6 F6
 replace bel:=D.d.base.only0 bel
 clear D
 refine wp_seq_k fun _ K10=>?_
 refine wp_block ?_
 refine wp_loop_ghost_k (fun n_ a_ w_=>∃ s7:Value,∃ s8:Value,∃ s9:Value,∃ s10:Value,∃ d11:Value,∃ d12:Value,∃ d22:Value,∃ d23:Value,∃ d24:Value,∃ d25:Value,∃ d26:Value,∃ d27:Value,∃ d28:Value,∃ d29:Value,∃ d30:Value,∃ d31:Value,∃ d32:Value,∃ d33:Value,∃ d34:Value,∃ d35:Value,∃ d36:Value,∃ d37:Value,∃ d38:Value,∃ d39:Value,∃ d40:Value,∃ d41:Value,∃ d42:Value,∃ a:Int,∃ b:Int,∃ x:Int,∃ y:Int,a_=fr (pt z::.pointer (some ⟨b1,ob1,none⟩)::.pointer (some ⟨b2,ob2,none⟩)::U::U::U::u1 0::s7::s8::s9::s10::d11::d12::sq u2 0 7 (u3 0::u3 1::d22::d23::d24::d25::d26::d27::d28::d29::d30::d31::d32::d33::d34::d35::d36::d37::d38::d39::d40::d41::d42::us 8))∧n_=b.toNat∧MiI g n a b x y∧(IntO a).p (Amb S W) s7 w_∧(IntO b).p (Amb S W) s8 w_∧(IntO x).p (Amb S W) s9 w_∧(IntO y).p (Amb S W) s10 w_∧w_.heap[z]? = some (.cells #[z_0,z_1] 210 (0,0))∧(IntP n).p (·=b2) (.pointer (some ⟨b2,ob2,none⟩)) w_∧Only z W w_) n.toNat ⟨_,_,_,_,_,_,_,_,_,_,_,_,_,_,_,_,_,_,_,_,_,_,_,_,_,_,_,g%n,n,(1:Int),(0:Int),rfl,rfl,by exact mi_start p1 p2,(by rw [E2_7];exact (VP.at F5 L5)),(by rw [E2_8];exact (VP.at F6 L6)),(by rw [E3_2];exact (VP.at F8 L8)),(by rw [E3_3];exact (VP.at F9 L9)),B_z,F2,bel⟩ ?_
 clear B_z F2 F5 F6 F8 F9 bel
 rintro n_ _ w11 ⟨s7,s8,s9,s10,d11,d12,d22,d23,d24,d25,d26,d27,d28,d29,d30,d31,d32,d33,d34,d35,d36,d37,d38,d39,d40,d41,d42,a,b,x,y,rfl,hn14,i0,f7,f8,f9,f10,B_z,F2,bel⟩ J12 K13 hJ12 hK13
 obtain⟨b15,rfl,L15,F15⟩:=IntO.elim f7
 obtain⟨b16,rfl,L16,F16⟩:=IntO.elim f8
 obtain⟨b17,rfl,L17,F17⟩:=IntO.elim f9
 obtain⟨b18,rfl,L18,F18⟩:=IntO.elim f10
 refine wp_seq_k fun _ K19=>?_
 refine gs 3 (Amb S W) fun _ K20=>?_
 refine .mz rfl 8 (V:=pt b16) rfl ?_
 refine .cK rfl Tryz.func220 (fun H=>⟨_,ar1 (H.g 22 0),bSign _ (IntO.p (VP.any _ (H.was _ [] (VP.at F16 L16))))⟩) ?_
 refine .e rfl (V:=.bool (b.sign != 0)) (fun H=>x_cmp (H.g 23 1) (H.c _)) ?_
 refine .dg (fun u=>pt z::.pointer (some ⟨b1,ob1,none⟩)::.pointer (some ⟨b2,ob2,none⟩)::U::U::U::u1 0::pt b15::pt b16::pt b17::pt b18::d11::d12::sq u2 0 7 (u3 0::u3 1::sq u 0 3 (d25::d26::d27::d28::d29::d30::d31::d32::d33::d34::d35::d36::d37::d38::d39::d40::d41::d42::us 8))) K20 bel.size fun u4 w4 D=>?_
 have E4_0:=D.q 0
 have E4_1:=D.q 1
 have E4_2:=D.q 2
 replace B_z:=D.k B_z
 replace F2:=D.o L2 F2
 replace F15:=D.o L15 F15
 replace F16:=D.o L16 F16
 replace F17:=D.o L17 F17
 replace F18:=D.o L18 F18
 replace bel:=D.d.base.only0 bel
 clear D
 rcases Bool.eq_false_or_eq_true (b.sign != 0) with c21|c21
 ·
  refine wp_cond_true ((E4_2).trans (congrArg Value.bool c21)) ?_
  refine wp_skip ?_
  refine K19 _ _ ?_
  refine wp_block ?_
  refine wp_seq_k fun _ K22=>?_
  refine go2_seqT 4 6 rfl (Amb S W) [] [] (Olds.nil _) (by kernel_rfl) ?_
  refine .al rfl zI ?_
  refine .mz rfl 7 (V:=pt b15) rfl ?_
  refine .mz rfl 8 (V:=pt b16) rfl ?_
  refine .al rfl zI ?_
  refine .dT (fun u=>pt z::.pointer (some ⟨b1,ob1,none⟩)::.pointer (some ⟨b2,ob2,none⟩)::U::U::U::u1 0::pt b15::pt b16::pt b17::pt b18::u 8::u 9::sq u2 0 7 (u3 0::u3 1::sq u4 0 3 (u 5::sq u 0 5 (u 6::u 7::d33::d34::d35::d36::d37::d38::d39::d40::d41::d42::us 8)))) bel.size _ rfl fun u5 w5 D=>?_
  obtain⟨b23,E5_0,A23,B23⟩:=D.nw 0
  obtain⟨b24,E5_3,A24,B24⟩:=D.nw 3
  have E5_1:=D.q 1
  have E5_2:=D.q 2
  have N_z_b23:=D.n1 0 (lt_of B_z) E5_0
  have N2_23:=D.n1 0 (IntP.lt F2) E5_0
  have N15_23:=D.n1 0 (IntO.lt F15) E5_0
  have N16_23:=D.n1 0 (IntO.lt F16) E5_0
  have N17_23:=D.n1 0 (IntO.lt F17) E5_0
  have N18_23:=D.n1 0 (IntO.lt F18) E5_0
  have N_z_b24:=D.n1 3 (lt_of B_z) E5_3
  have N2_24:=D.n1 3 (IntP.lt F2) E5_3
  have N15_24:=D.n1 3 (IntO.lt F15) E5_3
  have N16_24:=D.n1 3 (IntO.lt F16) E5_3
  have N17_24:=D.n1 3 (IntO.lt F17) E5_3
  have N18_24:=D.n1 3 (IntO.lt F18) E5_3
  have N23_24:=D.n2 0 3 E5_0 E5_3
  replace B_z:=D.k B_z
  replace F2:=D.o L2 F2
  replace F15:=D.o L15 F15
  replace F16:=D.o L16 F16
  replace F17:=D.o L17 F17
  replace F18:=D.o L18 F18
  replace bel:=D.d.base.only0 bel
  clear D
  refine wpT_callO2 (args:=#[pt b23,pt b15,pt b16,pt b24]) rfl (ex_call rfl rfl Tryz.func289 (by kernel_rfl) (by kernel_rfl) (by simp only [List.map_toArray,List.map_cons,List.map_nil];show #[(u5 0).v,(u5 1).v,(u5 2).v,(u5 3).v]=#[pt b23,pt b15,pt b16,pt b24];rw [E5_0,E5_1,E5_2,E5_3])) (bDivMod (z:=b23) (x:=a) (y:=b) (r:=b24) (IntBlk.of B23) (IntO.p (VP.any _ F15)) (IntO.p (VP.any _ F16)) (IntBlk.of B24) N23_24 (by first|with_reducible exact mi_pg p0|with_reducible exact mi_pn p0|with_reducible exact mi_nz p1|with_reducible exact mi_pd i0 p0|with_reducible exact mi_pm i0 p0 (mi_ne c21)|with_reducible exact mi_ps i0 p0 (mi_ne c21)|with_reducible exact mi_px i0 p0|with_reducible exact mi_pa i0 p0|with_reducible exact mi_ne c21|decide) (by first|with_reducible exact mi_pg p0|with_reducible exact mi_pn p0|with_reducible exact mi_nz p1|with_reducible exact mi_pd i0 p0|with_reducible exact mi_pm i0 p0 (mi_ne c21)|with_reducible exact mi_ps i0 p0 (mi_ne c21)|with_reducible exact mi_px i0 p0|with_reducible exact mi_pa i0 p0|with_reducible exact mi_ne c21|decide)) fun w25 fw25a fw25b ow25=>?_
  have sw25_b23:Soft w5 b23∨Local w5 b23:=.inl ⟨_,_,B23,rfl⟩
  have sw25_b24:Soft w5 b24∨Local w5 b24:=.inl ⟨_,_,B24,rfl⟩
  replace B_z:=ow25.keep B_z N_z_b23 N_z_b24
  replace F2:=ow25.one sw25_b23 sw25_b24 _ N2_23 N2_24 F2
  replace F15:=ow25.one sw25_b23 sw25_b24 _ N15_23 N15_24 F15
  replace F16:=ow25.one sw25_b23 sw25_b24 _ N16_23 N16_24 F16
  replace F17:=ow25.one sw25_b23 sw25_b24 _ N17_23 N17_24 F17
  replace F18:=ow25.one sw25_b23 sw25_b24 _ N18_23 N18_24 F18
  have F23:=fw25a
  have L23:Amb S W b23:=.inr A23
  have F24:=fw25b
  have L24:Amb S W b24:=.inr A24
  replace bel:=ow25.drop2 bel A23 A24
  refine wpT_val rfl (ex_move rfl) ?_
  refine wpT_val (v:=pt b23) rfl (x_ex (vs:=#[pt b23,pt b24]) rfl) ?_
  refine wpT_val (v:=pt b24) rfl (x_ex (vs:=#[pt b23,pt b24]) rfl) ?_
  refine wpList_as (fr (pt z::.pointer (some ⟨b1,ob1,none⟩)::.pointer (some ⟨b2,ob2,none⟩)::U::U::U::u1 0::pt b15::pt b16::pt b17::pt b18::u5 8::u5 9::sq u2 0 7 (u3 0::u3 1::sq u4 0 3 (.tuple #[pt b23,pt b24]::sq u5 0 4 (.tuple #[pt b23,pt b24]::pt b23::pt b24::d33::d34::d35::d36::d37::d38::d39::d40::d41::d42::us 8))))) (by kernel_rfl) ?_
  refine wpT_val rfl (ex_assign rfl) ?_
  refine wpT_val rfl (ex_assign rfl) ?_
  refine wpList_as (fr (pt z::.pointer (some ⟨b1,ob1,none⟩)::.pointer (some ⟨b2,ob2,none⟩)::U::U::U::u1 0::pt b15::pt b16::pt b17::pt b18::pt b23::pt b24::sq u2 0 7 (u3 0::u3 1::sq u4 0 3 (.tuple #[pt b23,pt b24]::sq u5 0 4 (.tuple #[pt b23,pt b24]::pt b23::pt b24::d33::d34::d35::d36::d37::d38::d39::d40::d41::d42::us 8))))) (by kernel_rfl) ?_
  refine wpList_nil ?_
  show _
  refine K22 _ _ ?_
  refine wp_seq_k fun _ K26=>?_
  refine wp_region_list ?_
  refine wpT_val rfl (ex_move rfl) ?_
  refine wpT_val rfl (ex_move rfl) ?_
  refine wpList_as (fr (pt z::.pointer (some ⟨b1,ob1,none⟩)::.pointer (some ⟨b2,ob2,none⟩)::U::U::U::u1 0::pt b15::pt b16::pt b17::pt b18::pt b23::pt b24::sq u2 0 7 (u3 0::u3 1::sq u4 0 3 (.tuple #[pt b23,pt b24]::sq u5 0 4 (.tuple #[pt b23,pt b24]::pt b23::pt b24::pt b16::pt b24::d35::d36::d37::d38::d39::d40::d41::d42::us 8))))) (by kernel_rfl) ?_
  refine wpT_val rfl (ex_assign rfl) ?_
  refine wpT_val rfl (ex_assign rfl) ?_
  refine wpList_as (fr (pt z::.pointer (some ⟨b1,ob1,none⟩)::.pointer (some ⟨b2,ob2,none⟩)::U::U::U::u1 0::pt b16::pt b24::pt b17::pt b18::pt b23::pt b24::sq u2 0 7 (u3 0::u3 1::sq u4 0 3 (.tuple #[pt b23,pt b24]::sq u5 0 4 (.tuple #[pt b23,pt b24]::pt b23::pt b24::pt b16::pt b24::d35::d36::d37::d38::d39::d40::d41::d42::us 8))))) (by kernel_rfl) ?_
  refine wpList_nil ?_
  show _
  refine K26 _ _ ?_
  refine wp_region_list ?_
  refine wpT_val rfl (ex_move rfl) ?_
  refine wpT_al (c:=zI) rfl rfl (by kernel_rfl) fun b28 w27 A28 B28 ow27=>?_
  have N_z_b28:=Nat.ne_of_lt (Nat.lt_of_lt_of_le (lt_of B_z) A28)
  have N2_28:=Nat.ne_of_lt (Nat.lt_of_lt_of_le (IntP.lt F2) A28)
  have N15_28:=Nat.ne_of_lt (Nat.lt_of_lt_of_le (IntO.lt F15) A28)
  have N16_28:=Nat.ne_of_lt (Nat.lt_of_lt_of_le (IntO.lt F16) A28)
  have N17_28:=Nat.ne_of_lt (Nat.lt_of_lt_of_le (IntO.lt F17) A28)
  have N18_28:=Nat.ne_of_lt (Nat.lt_of_lt_of_le (IntO.lt F18) A28)
  have N23_28:=Nat.ne_of_lt (Nat.lt_of_lt_of_le (IntO.lt F23) A28)
  have N24_28:=Nat.ne_of_lt (Nat.lt_of_lt_of_le (IntO.lt F24) A28)
  replace A28:=Nat.le_trans bel.size A28
  replace B_z:=(ow27.block z (lt_of B_z)).trans B_z
  replace F2:=(IntP n).grow (Rgn.Below.growS ow27 (Nat.le_refl _) _) F2
  replace F15:=(IntO a).grow (Rgn.Below.growS ow27 (Nat.le_refl _) _) F15
  replace F16:=(IntO b).grow (Rgn.Below.growS ow27 (Nat.le_refl _) _) F16
  replace F17:=(IntO x).grow (Rgn.Below.growS ow27 (Nat.le_refl _) _) F17
  replace F18:=(IntO y).grow (Rgn.Below.growS ow27 (Nat.le_refl _) _) F18
  replace F23:=(IntO (a/b)).grow (Rgn.Below.growS ow27 (Nat.le_refl _) _) F23
  replace F24:=(IntO (a%b)).grow (Rgn.Below.growS ow27 (Nat.le_refl _) _) F24
  replace bel:=bel.trans (Only.below ow27)
  refine wpList_as (fr (pt z::.pointer (some ⟨b1,ob1,none⟩)::.pointer (some ⟨b2,ob2,none⟩)::U::U::U::u1 0::pt b16::pt b24::pt b17::pt b18::pt b23::pt b24::sq u2 0 7 (u3 0::u3 1::sq u4 0 3 (.tuple #[pt b23,pt b24]::sq u5 0 4 (.tuple #[pt b23,pt b24]::pt b23::pt b24::pt b16::pt b24::pt b18::pt b28::d37::d38::d39::d40::d41::d42::us 8))))) (by kernel_rfl) ?_
  refine wpT_val rfl (ex_move rfl) ?_
  refine wpT_al (c:=zI) rfl rfl (by kernel_rfl) fun b30 w29 A30 B30 ow29=>?_
  have N_z_b30:=Nat.ne_of_lt (Nat.lt_of_lt_of_le (lt_of B_z) A30)
  have N28_30:=Nat.ne_of_lt (Nat.lt_of_lt_of_le (lt_of B28) A30)
  have N2_30:=Nat.ne_of_lt (Nat.lt_of_lt_of_le (IntP.lt F2) A30)
  have N15_30:=Nat.ne_of_lt (Nat.lt_of_lt_of_le (IntO.lt F15) A30)
  have N16_30:=Nat.ne_of_lt (Nat.lt_of_lt_of_le (IntO.lt F16) A30)
  have N17_30:=Nat.ne_of_lt (Nat.lt_of_lt_of_le (IntO.lt F17) A30)
  have N18_30:=Nat.ne_of_lt (Nat.lt_of_lt_of_le (IntO.lt F18) A30)
  have N23_30:=Nat.ne_of_lt (Nat.lt_of_lt_of_le (IntO.lt F23) A30)
  have N24_30:=Nat.ne_of_lt (Nat.lt_of_lt_of_le (IntO.lt F24) A30)
  replace A30:=Nat.le_trans bel.size A30
  replace B_z:=(ow29.block z (lt_of B_z)).trans B_z
  replace B28:=(ow29.block b28 (lt_of B28)).trans B28
  replace F2:=(IntP n).grow (Rgn.Below.growS ow29 (Nat.le_refl _) _) F2
  replace F15:=(IntO a).grow (Rgn.Below.growS ow29 (Nat.le_refl _) _) F15
  replace F16:=(IntO b).grow (Rgn.Below.growS ow29 (Nat.le_refl _) _) F16
  replace F17:=(IntO x).grow (Rgn.Below.growS ow29 (Nat.le_refl _) _) F17
  replace F18:=(IntO y).grow (Rgn.Below.growS ow29 (Nat.le_refl _) _) F18
  replace F23:=(IntO (a/b)).grow (Rgn.Below.growS ow29 (Nat.le_refl _) _) F23
  replace F24:=(IntO (a%b)).grow (Rgn.Below.growS ow29 (Nat.le_refl _) _) F24
  replace bel:=bel.trans (Only.below ow29)
  refine wpT_val rfl (ex_move rfl) ?_
  refine wpT_val rfl (ex_move rfl) ?_
  refine wpList_as (fr (pt z::.pointer (some ⟨b1,ob1,none⟩)::.pointer (some ⟨b2,ob2,none⟩)::U::U::U::u1 0::pt b16::pt b24::pt b17::pt b18::pt b23::pt b24::sq u2 0 7 (u3 0::u3 1::sq u4 0 3 (.tuple #[pt b23,pt b24]::sq u5 0 4 (.tuple #[pt b23,pt b24]::pt b23::pt b24::pt b16::pt b24::pt b18::pt b28::pt b17::pt b30::pt b23::pt b18::d41::d42::us 8))))) (by kernel_rfl) ?_
  refine wpT_callO (args:=#[pt b30,pt b23,pt b18]) rfl (ex_call rfl rfl Tryz.func221 (by kernel_rfl) (by kernel_rfl) (by simp only [List.map_toArray,List.map_cons,List.map_nil];rfl)) (bMul (z:=b30) (x:=a/b) (y:=y) (IntBlk.of B30) (IntO.p (VP.any _ F23)) (IntO.p (VP.any _ F18)) (by first|with_reducible exact mi_pg p0|with_reducible exact mi_pn p0|with_reducible exact mi_nz p1|with_reducible exact mi_pd i0 p0|with_reducible exact mi_pm i0 p0 (mi_ne c21)|with_reducible exact mi_ps i0 p0 (mi_ne c21)|with_reducible exact mi_px i0 p0|with_reducible exact mi_pa i0 p0|with_reducible exact mi_ne c21|decide)) fun w31 fw31 ow31=>?_
  have sw31:Soft w29 b30∨Local w29 b30:=.inl ⟨_,_,B30,rfl⟩
  replace B_z:=ow31.keep B_z N_z_b30
  replace B28:=ow31.keep B28 N28_30
  replace F2:=ow31.one sw31 _ N2_30 F2
  replace F15:=ow31.one sw31 _ N15_30 F15
  replace F16:=ow31.one sw31 _ N16_30 F16
  replace F17:=ow31.one sw31 _ N17_30 F17
  replace F18:=ow31.one sw31 _ N18_30 F18
  replace F23:=ow31.one sw31 _ N23_30 F23
  replace F24:=ow31.one sw31 _ N24_30 F24
  have F30:=fw31
  have L30:Amb S W b30:=.inr A30
  replace bel:=Only.other ow31 A30 bel.size bel
  refine wpT_callO (args:=#[pt b28,pt b17,pt b30]) rfl (ex_call rfl rfl Tryz.func254 (by kernel_rfl) (by kernel_rfl) (by simp only [List.map_toArray,List.map_cons,List.map_nil];rfl)) (bSub (z:=b28) (x:=x) (y:=(a/b)*y) (IntBlk.of B28) (IntO.p (VP.any _ F17)) (IntO.p (VP.any _ F30)) (by first|with_reducible exact mi_pg p0|with_reducible exact mi_pn p0|with_reducible exact mi_nz p1|with_reducible exact mi_pd i0 p0|with_reducible exact mi_pm i0 p0 (mi_ne c21)|with_reducible exact mi_ps i0 p0 (mi_ne c21)|with_reducible exact mi_px i0 p0|with_reducible exact mi_pa i0 p0|with_reducible exact mi_ne c21|decide)) fun w32 fw32 ow32=>?_
  have sw32:Soft w31 b28∨Local w31 b28:=.inl ⟨_,_,B28,rfl⟩
  replace B_z:=ow32.keep B_z N_z_b28
  replace F2:=ow32.one sw32 _ N2_28 F2
  replace F15:=ow32.one sw32 _ N15_28 F15
  replace F16:=ow32.one sw32 _ N16_28 F16
  replace F17:=ow32.one sw32 _ N17_28 F17
  replace F18:=ow32.one sw32 _ N18_28 F18
  replace F23:=ow32.one sw32 _ N23_28 F23
  replace F24:=ow32.one sw32 _ N24_28 F24
  replace F30:=ow32.one sw32 _ (Ne.symm N28_30) F30
  have F28:=fw32
  have L28:Amb S W b28:=.inr A28
  replace bel:=Only.other ow32 A28 bel.size bel
  refine wpT_val rfl (ex_assign rfl) ?_
  refine wpT_val rfl (ex_assign rfl) ?_
  refine wpList_as (fr (pt z::.pointer (some ⟨b1,ob1,none⟩)::.pointer (some ⟨b2,ob2,none⟩)::U::U::U::u1 0::pt b16::pt b24::pt b18::.pointer (some ⟨b28,0,none⟩)::pt b23::pt b24::sq u2 0 7 (u3 0::u3 1::sq u4 0 3 (.tuple #[pt b23,pt b24]::sq u5 0 4 (.tuple #[pt b23,pt b24]::pt b23::pt b24::pt b16::pt b24::pt b18::pt b28::pt b17::pt b30::pt b23::pt b18::.pointer (some ⟨b30,0,none⟩)::.pointer (some ⟨b28,0,none⟩)::us 8))))) (by kernel_rfl) ?_
  refine wpList_as (fr (pt z::.pointer (some ⟨b1,ob1,none⟩)::.pointer (some ⟨b2,ob2,none⟩)::U::U::U::u1 0::pt b16::pt b24::pt b18::.pointer (some ⟨b28,0,none⟩)::pt b23::pt b24::sq u2 0 7 (u3 0::u3 1::sq u4 0 3 (.tuple #[pt b23,pt b24]::sq u5 0 4 (.tuple #[pt b23,pt b24]::pt b23::pt b24::pt b16::pt b24::pt b18::pt b28::pt b17::pt b30::pt b23::pt b18::.pointer (some ⟨b30,0,none⟩)::.pointer (some ⟨b28,0,none⟩)::us 8))))) (by kernel_rfl) ?_
  refine wpList_nil ?_
  show _
  refine inBlock_normal ?_
  refine hK13 _ _ (Handed.intro ((a%b).toNat) (by rw [hn14];exact mi_dec i0 c21) (hJ12 _ _ _ ⟨_,_,_,_,_,_,_,_,_,_,_,_,_,_,_,_,_,_,_,_,_,_,_,_,_,_,_,b,a%b,y,x-((a/b)*y),rfl,rfl,by exact mi_step i0 (mi_ne c21),(VP.at F16 L16),(VP.at F24 L24),(VP.at F18 L18),(VP.at F28 L28),B_z,F2,bel⟩))
 ·
  refine wp_cond_false ((E4_2).trans (congrArg Value.bool c21)) ?_
  refine wp_exit ?_
  refine then_exit ?_
  refine then_exit ?_
  refine inBlock_here ?_
  refine K10 _ _ ?_
  refine wp_seq_k fun _ K33=>?_
  refine gs 4 (Amb S W) fun _ K34=>?_
  refine .mz rfl 7 (V:=pt b15) rfl ?_
  refine .cR rfl [] Tryz.func148 (fun H=>⟨_,ar1 (H.c (.int .i64 1)),bNewInt _ (by first|with_reducible exact mi_pg p0|with_reducible exact mi_pn p0|with_reducible exact mi_nz p1|with_reducible exact mi_pd i0 p0|with_reducible exact mi_pm i0 p0 (mi_ne c21)|with_reducible exact mi_ps i0 p0 (mi_ne c21)|with_reducible exact mi_px i0 p0|with_reducible exact mi_pa i0 p0|with_reducible exact mi_ne c21|decide) (by first|with_reducible exact mi_pg p0|with_reducible exact mi_pn p0|with_reducible exact mi_nz p1|with_reducible exact mi_pd i0 p0|with_reducible exact mi_pm i0 p0 (mi_ne c21)|with_reducible exact mi_ps i0 p0 (mi_ne c21)|with_reducible exact mi_px i0 p0|with_reducible exact mi_pa i0 p0|with_reducible exact mi_ne c21|decide)⟩) ?_
  refine .cK rfl Tryz.func210 (fun H=>⟨_,ar2 (H.g 43 0) (H.r 44 1),bCmp _ _ (IntO.p (VP.any _ (H.was _ [] (VP.at F15 L15)))) (IntO.p (SV.any (H.a 1 rfl))) (by first|with_reducible exact mi_pg p0|with_reducible exact mi_pn p0|with_reducible exact mi_nz p1|with_reducible exact mi_pd i0 p0|with_reducible exact mi_pm i0 p0 (mi_ne c21)|with_reducible exact mi_ps i0 p0 (mi_ne c21)|with_reducible exact mi_px i0 p0|with_reducible exact mi_pa i0 p0|with_reducible exact mi_ne c21|decide)⟩) ?_
  refine .e rfl (V:=.bool ((icmp a (1:Int)) != 0)) (fun H=>x_cmp (H.g 45 2) (H.c _)) ?_
  refine .dg (fun u=>pt z::.pointer (some ⟨b1,ob1,none⟩)::.pointer (some ⟨b2,ob2,none⟩)::U::U::U::u1 0::pt b15::pt b16::pt b17::pt b18::d11::d12::sq u2 0 7 (u3 0::u3 1::sq u4 0 3 (d25::d26::d27::d28::d29::d30::d31::d32::d33::d34::d35::d36::d37::d38::d39::d40::d41::d42::sq u 0 4 (us 4)))) K34 bel.size fun u8 w8 D=>?_
  have E8_3:=D.q 3
  replace B_z:=D.k B_z
  replace F2:=D.o L2 F2
  replace F17:=D.o L17 F17
  replace bel:=D.d.base.only0 bel
  clear D
  rcases Bool.eq_false_or_eq_true ((icmp a (1:Int)) != 0) with c35|c35
  ·
   refine wp_cond_true ((E8_3).trans (congrArg Value.bool c35)) ?_
   exact absurd c35 (mi_one i0 c21)
  ·
   refine wp_cond_false ((E8_3).trans (congrArg Value.bool c35)) ?_
   refine wp_skip ?_
   refine K33 _ _ ?_
   refine wp_seq_k fun _ K37=>?_
   refine go2_seqT 3 2 rfl (Amb S W) [] [] (Olds.nil _) (by kernel_rfl) ?_
   refine .mz rfl 0 (V:=pt z) rfl ?_
   refine .mz rfl 9 (V:=pt b17) rfl ?_
   refine .mz rfl 2 (V:=.pointer (some ⟨b2,ob2,none⟩)) rfl ?_
   refine .dT (fun u=>pt z::.pointer (some ⟨b1,ob1,none⟩)::.pointer (some ⟨b2,ob2,none⟩)::U::U::U::u 4::pt b15::pt b16::pt b17::pt b18::d11::d12::sq u2 0 7 (u3 0::u3 1::sq u4 0 3 (d25::d26::d27::d28::d29::d30::d31::d32::d33::d34::d35::d36::d37::d38::d39::d40::d41::d42::sq u8 0 4 (sq u 0 4 [])))) bel.size _ rfl fun u9 w9 D=>?_
   have E9_0:=D.q 0
   have E9_1:=D.q 1
   have E9_2:=D.q 2
   replace B_z:=D.k B_z
   replace F2:=D.o L2 F2
   replace F17:=D.o L17 F17
   replace bel:=D.d.base.only0 bel
   clear D
   refine wpT_callO (args:=#[pt z,pt b17,.pointer (some ⟨b2,ob2,none⟩)]) rfl (ex_call rfl rfl Tryz.func324 (by kernel_rfl) (by kernel_rfl) (by simp only [List.map_toArray,List.map_cons,List.map_nil];show #[(u9 0).v,(u9 1).v,(u9 2).v]=#[pt z,pt b17,.pointer (some ⟨b2,ob2,none⟩)];rw [E9_0,E9_1,E9_2])) (bMod (z:=z) (x:=x) (y:=n) (IntBlk.of B_z) (IntO.p (VP.any _ F17)) (VP.any _ F2) (by first|with_reducible exact mi_pg p0|with_reducible exact mi_pn p0|with_reducible exact mi_nz p1|with_reducible exact mi_pd i0 p0|with_reducible exact mi_pm i0 p0 (mi_ne c21)|with_reducible exact mi_ps i0 p0 (mi_ne c21)|with_reducible exact mi_px i0 p0|with_reducible exact mi_pa i0 p0|with_reducible exact mi_ne c21|decide) (by first|with_reducible exact mi_pg p0|with_reducible exact mi_pn p0|with_reducible exact mi_nz p1|with_reducible exact mi_pd i0 p0|with_reducible exact mi_pm i0 p0 (mi_ne c21)|with_reducible exact mi_ps i0 p0 (mi_ne c21)|with_reducible exact mi_px i0 p0|with_reducible exact mi_pa i0 p0|with_reducible exact mi_ne c21|decide)) fun w38 fw38 ow38=>?_
   have sw38:Soft w9 z∨Local w9 z:=.inl ⟨_,_,B_z,rfl⟩
   have F_z:=fw38
   replace bel:=bel.trans ow38
   refine wpT_val rfl (ex_assign rfl) ?_
   refine wpList_as (fr (pt z::.pointer (some ⟨b1,ob1,none⟩)::.pointer (some ⟨b2,ob2,none⟩)::U::U::U::.pointer (some ⟨z,0,none⟩)::pt b15::pt b16::pt b17::pt b18::d11::d12::sq u2 0 7 (u3 0::u3 1::sq u4 0 3 (d25::d26::d27::d28::d29::d30::d31::d32::d33::d34::d35::d36::d37::d38::d39::d40::d41::d42::sq u8 0 4 (sq u9 0 3 (.pointer (some ⟨z,0,none⟩)::[])))))) (by kernel_rfl) ?_
   refine wpList_nil ?_
   show _
   refine K37 _ _ ?_
   refine wp_ret ?_
   refine ret_ok rfl (by exact results_tmp' rfl rfl) ⟨rfl,?_,bel⟩
   exact into_eq (mi_fin p1 i0 c21) F_z
end Go.Proofs.YtcdbmjnipaochaaGreat
namespace Go.Proofs.YtcdbmjnipaochaaGreat.Eng
open Go.RowKit Rgn
theorem ownInt{n:Int}:OwnV (IntO n):=fun h=>by
 obtain⟨b,rfl,h1,h2⟩:=IntO.elim h
 exact⟨b,rfl,h1,IntO.lt h2,h2⟩
theorem IntO.fresh{w:World}{b:Nat}(h:w.heap[b]? = some (.cells #[.bool false,.slice none 0 0] 210 (0,0))):(IntO 0).p (·=b) (pt b) w :=
 ⟨b,rfl,rfl,.slice none 0 0,by rw [h];rfl,⟨[],.inl ⟨rfl,rfl⟩,by simp [Canon],rfl⟩⟩
section
variable {A S:Nat→Prop} {sf:List Nat} {W w:World} {κ:List Value} {Φ:List VP}
theorem Inv.oj{β:Nat→Nat}{κ': List Value}{ℓ:Nat→Value}{bl:List Blk}(I:Inv A S W κ Φ ⟨β,κ', ℓ⟩ bl sf w)(n:Nat)(h:(whole (nthB bl n)).map (fun k=>(k.ty,k.cells.map (At.d ⟨β,κ', ℓ⟩)))=some (210,[.bool false,.slice none 0 0]):=by kernel_rfl):(IntO 0).p (·=β n) (pt (β n)) w:=IntO.fresh (I.b n h)
theorem InvU.oj{β:Nat→Nat}{κ': List Value}{ℓ:Nat→Value}{bl:Nat→Option Blk}{vis:Nat→Bool}(I:InvU A Φ ⟨β,κ', ℓ⟩ bl vis w)(n:Nat)(h:(whole (clear (bl n))).map (fun k=>(k.ty,k.cells.map (At.d ⟨β,κ', ℓ⟩)))=some (210,[.bool false,.slice none 0 0]):=by kernel_rfl):(IntO 0).p (·=β n) (pt (β n)) w:=IntO.fresh (I.b n h)
end
def PrP(x y:Rat)(V:Value):VP:=⟨fun S v w=>∃ a b,v=.tuple #[a,b,V]∧(RatP x).p S a w∧(RatP y).p S b w,
 fun hS ⟨a,b,h,h1,h2⟩=>⟨a,b,h,(RatP x).mono hS h1,(RatP y).mono hS h2⟩,fun h ⟨a,b,e,h1,h2⟩=>⟨a,b,e,(RatP x).grow h h1,(RatP y).grow h h2⟩⟩
def PiP(x y:Int)(V:Value):VP:=⟨fun S v w=>∃ a b,v=.tuple #[a,b,V]∧(IntO x).p S a w∧(IntO y).p S b w,
 fun hS ⟨a,b,h,h1,h2⟩=>⟨a,b,h,(IntO x).mono hS h1,(IntO y).mono hS h2⟩,fun h ⟨a,b,e,h1,h2⟩=>⟨a,b,e,(IntO x).grow h h1,(IntO y).grow h h2⟩⟩
theorem spPr(t:Bool){x y:Rat}:Split (PrP x y (.bool t)) (.tup [.o (.v 0),.o (.v 1),.o (.c (.bool t))]) [] [RatP x,RatP y]:=Split.of fun⟨a,b,e,h1,h2⟩=>⟨[a,b],⟨⟨VP1.rat h1,h1⟩,⟨VP1.rat h2,h2⟩,trivial⟩,fun _=>e⟩
theorem spIr(t:Bool){x y:Int}:Split (PiP x y (.bool t)) (.tup [.o (.v 0),.o (.v 1),.o (.c (.bool t))]) [] [IntO x,IntO y]:=Split.of fun⟨a,b,e,h1,h2⟩=>⟨[a,b],⟨⟨VP1.into h1,h1⟩,⟨VP1.into h2,h2⟩,trivial⟩,fun _=>e⟩
section
variable {P:Program} {A S:Nat→Prop} {W w w' : World} {κ:List Value} {Φ:List VP} {Q:Exit→Act→World→Prop} {m:MS}
theorem Mag.other{w w1:World}{v:Value}{n c:Nat}(h:Mag w v n)(hc:∃ cs,w.heap[c]? = some (.cells cs 210 (0,0)))(ho:∀ k,k≠c→w1.heap[k]? = w.heap[k]?):Mag w1 v n:=by
 obtain⟨l,h1,h2,h3⟩:=h
 refine⟨l,?_,h2,h3⟩
 rcases h1 with h1|⟨b,off,cap,cur,fr,k1,k2,k3,k4,k5⟩
 ·exact .inl h1
 ·refine .inr ⟨b,off,cap,cur,fr,k1,?_,k3,k4,k5⟩
  rw [ho b]
  ·exact k2
  ·rintro rfl
   obtain⟨cs,hc⟩:=hc
   rw [k2] at hc
   simp at hc
end
section
variable {P:Program} {S:Nat→Prop} {W:World} {κ:List Value} {Φ:List VP} {Q:Exit→Act→World→Prop} {m:MS}
theorem Inv.low{A:Nat→Prop}{E:Env}{w w': World}{bl:List Blk}{sf:List Nat}(I:Inv A S W κ Φ E bl sf w)(hb:Below w.heap.size w w'):Inv (fun k=>A k∧k<w.heap.size) S W κ Φ E bl sf w' := by
 refine⟨I.ek,I.bel.trans ⟨hb.os,hb.tape,hb.output,hb.size,fun k hk=>hb.block k (Nat.lt_of_lt_of_le hk I.bel.size)⟩,fun b k h=>Nat.lt_of_lt_of_le (I.lt b k h) hb.size,?_,I.own,I.old,I.inj,I.ol,I.ok,?_,fun k hk=>I.up k hk.1,fun b k h ho hs=>⟨I.se b k h ho hs,I.lt b k h⟩,?_,?_⟩
 ·intro b k h hf
  rw [hb.block _ (I.lt b k h)]
  exact I.blk b k h hf
 ·intro n φ h hs
  exact φ.grow (GrowS.below hb) (φ.mono (fun k hk ha=>⟨ha,hk⟩) (I.fac n φ h hs))
 ·intro b k h hs
  obtain⟨g1,g2,g3⟩:=I.so b k h hs
  exact⟨g1,fun e=>g2 e.1,Soft.keep g3 (hb.block _ (I.lt b k h))⟩
 ·intro b k n h hfn
  obtain⟨g1,g2,ψ,g3,g4⟩:=I.sof b k n h hfn
  exact⟨g1,Soft.keep g2 (hb.block _ (I.lt b k h)),ψ,g3,ψ.grow (GrowS.below hb) g4⟩
theorem Inv.take{A:Nat→Prop}{E:Env}{w:World}{φ:VP}{z:Nat}{T:TypeId}(I:Inv A S W κ Φ E m.bl m.sf w)(hf:fitB m κ Φ=true)(hA:¬ A z)(hW:W.heap.size≤z)(hl:z<w.heap.size)(hne:∀ b k,nth m.bl b=some k→E.β b≠z)(hp:φ.p (·=z) (.pointer (some ⟨z,0,none⟩)) w)(hS:Soft w z):let E' : Env:=⟨fun b=>if b=m.bl.length then z else E.β b,E.κ,fun n=>if n<m.nv then E.ℓ n else .pointer none⟩
  Inv A S W κ (Φ++[φ]) E' (m.bl++[⟨T,[],true,some m.nv,true⟩]) (m.nv::m.sf) w∧Same m.bl.length m.nk m.nv E E' := by
 intro E'
 have s:Same m.bl.length m.nk m.nv E E' := ⟨fun b hb=>if_neg (Nat.ne_of_lt hb),fun _ _=>rfl,fun n hn=>if_pos hn⟩
 simp only [fitB,MS.okB,Bool.and_eq_true] at hf
 obtain⟨⟨⟨f0,f1⟩,f2⟩,f3⟩:=hf
 have f3:=Nat.eq_of_beq_eq_true f3
 have hβ:∀ b k,nth m.bl b=some k→E'.β b=E.β b:=fun b k h=>s.b b (nth_lt h)
 have hn:E'.β m.bl.length=z:=if_pos rfl
 refine⟨⟨I.ek,I.bel,?_,?_,?_,?_,?_,?_,I.ok,?_,I.up,?_,?_,?_⟩,s⟩
 ·intro b k h
  rcases nth_snoc h with h|⟨rfl,rfl⟩
  ·rw [hβ b k h];exact I.lt b k h
  ·rw [hn];exact hl
 ·intro b k h hf
  rcases nth_snoc h with h|⟨rfl,rfl⟩
  ·rw [hβ b k h]
   exact (I.blk b k h hf).env (At.sameL s (List.all_eq_true.1 f1 k (nth_mem h)))
  ·cases hf
 ·intro b k h hown
  rcases nth_snoc h with h|⟨rfl,rfl⟩
  ·rw [hβ b k h];exact I.own b k h hown
  ·rw [hn];exact hW
 ·intro b k h hown
  rcases nth_snoc h with h|⟨rfl,rfl⟩
  ·rw [hβ b k h];exact I.old b k h hown
  ·cases hown
 ·intro b c k l h g ho1 ho2 hne'
  rcases nth_snoc h with h|⟨rfl,rfl⟩
  ·rcases nth_snoc g with g|⟨rfl,rfl⟩
   ·rw [hβ b k h,hβ c l g];exact I.inj b c k l h g ho1 ho2 hne'
   ·rw [hβ b k h,hn];exact hne b k h
  ·rcases nth_snoc g with g|⟨rfl,rfl⟩
   ·rw [hβ c l g,hn];exact (hne c l g).symm
   ·exact absurd rfl hne'
 ·intro n
  show (if n<m.nv then E.ℓ n else .pointer none).oneCell'=true
  split
  ·exact I.ol n
  ·rfl
 ·intro n ψ h hs
  have hs:(Nat.beq m.nv n||hasN m.sf n)=false:=hs
  rw [Bool.or_eq_false_iff] at hs
  have hne:n≠m.nv:=fun e=>by rw [e,show Nat.beq m.nv m.nv=true from Nat.beq_refl _] at hs;cases hs.1
  rcases nth_snoc h with h|⟨rfl,rfl⟩
  ·have hlt:=nth_lt h
   show ψ.p _ (if n<m.nv then E.ℓ n else .pointer none) w
   rw [if_pos (by omega)]
   exact I.fac n ψ h hs.2
  ·exact absurd f3.symm hne
 ·intro b k h ho hs
  rcases nth_snoc h with h|⟨rfl,rfl⟩
  ·rw [hβ b k h];exact I.se b k h ho hs
  ·cases hs
 ·intro b k h hs
  rcases nth_snoc h with h|⟨rfl,rfl⟩
  ·rw [hβ b k h];exact I.so b k h hs
  ·rw [hn];exact⟨rfl,hA,hS⟩
 ·intro b k n h hfn
  rcases nth_snoc h with h|⟨rfl,rfl⟩
  ·obtain⟨g1,g2,ψ,g3,g4⟩:=I.sof b k n h hfn
   rw [hβ b k h]
   exact⟨g1,g2,ψ,by rw [nth_eq] at g3 ⊢;rw [List.getElem?_append_left (List.getElem?_eq_some_iff.1 g3).1];exact g3,g4⟩
  ·have e:m.nv=n:=Option.some.inj hfn
   subst e
   rw [hn]
   exact⟨rfl,hS,φ,by rw [nth_eq,f3,List.getElem?_append_right (Nat.le_refl _)];simp,hp⟩
def RetNN(x y:Int)(W:World):Ending→World→Prop:=fun e w' =>
 ∃ a b,e=.returned (.tuple #[.pointer (some ⟨a,0,none⟩),.pointer (some ⟨b,0,none⟩)])∧a≠b∧W.heap.size≤a∧W.heap.size≤b∧(IntO x).p (·=a) (.pointer (some ⟨a,0,none⟩)) w'∧(IntO y).p (·=b) (.pointer (some ⟨b,0,none⟩)) w'∧Below W.heap.size W w'
theorem RetNN.eq{x y x' y': Int}{W:World}{e:Ending}{w': World}(h1:x=x')(h2:y=y')(h:RetNN x y W e w'):RetNN x' y' W e w' := by subst h1;subst h2;exact h
def midN(T:TypeId)(m:MS):MS:={ m with bl:=m.bl++[⟨T,[],true,some m.nv,true⟩],nv:=m.nv+1,sf:=m.nv::m.sf }
def aftNN(T:TypeId)(m:MS):MS :=
 match m.cur with
 | .ops all (o::rest)=>{ m with cur:=.ops all rest,fr:=putF m.fr o.dst (some (.tup [.o (.p m.bl.length 0),.o (.p (m.bl.length+1) 0)])),bl:=(m.bl++[⟨T,[],true,some m.nv,true⟩])++[⟨T,[],true,some (m.nv+1),true⟩],nv:=m.nv+2,sf:=(m.nv+1)::m.nv::m.sf }
 | _=>m
theorem Run.cNN{f:FuncId}{args:(Nat→Nat)→(Nat→Value)→Array Value}{x y:Int}(T:TypeId)(hc:∀ {A:Nat→Prop} β ℓ w,Inv A S W κ Φ ⟨β,κ,ℓ⟩ (runM P far m).bl (runM P far m).sf w→Calls P f (args β ℓ) w (RetNN x y w))(rest:Run P S W κ ((Φ++[IntO x])++[IntO y]) Q (aftNN T (runM P far m)))(ha:∀ β ℓ,argsOf P (runM P far m) ⟨β,κ,ℓ⟩=some (f,(args β ℓ).toList):=by intro β ℓ;kernel_rfl)(hf:fitB (runM P far m) κ Φ=true:=by kernel_rfl)(hf2:fitB (midN T (runM P far m)) κ (Φ++[IntO x])=true:=by kernel_rfl):Run P S W κ Φ Q m :=
 run_sound far <| Run.mk fun A0 E a w I G=>by
  obtain⟨β,κ', ℓ⟩:=E
  have e:=I.ek
  simp only at e
  subst e
  generalize hm:runM P far m=n at *
  obtain⟨o,all,rst,hcur,hg,hx⟩:=call_enter (w:=w) (ha β ℓ) G
  have hn' : aftNN T n={ n with cur:=.ops all rst,fr:=putF n.fr o.dst (some (.tup [.o (.p n.bl.length 0),.o (.p (n.bl.length+1) 0)])),bl:=(n.bl++[⟨T,[],true,some n.nv,true⟩])++[⟨T,[],true,some (n.nv+1),true⟩],nv:=n.nv+2,sf:=(n.nv+1)::n.nv::n.sf }:=by unfold aftNN;rw [hcur]
  rw [hn'] at rest
  rw [den_op hcur]
  refine wpList_step fun K hK=>?_
  rw [if_pos hg]
  simp only [Oper.wp,hx,Oper.upon]
  refine (hc β ℓ w I).mono fun e w' hr=>?_
  obtain⟨z,y', rfl,hne,h1,h2,h3,h4,h5⟩:=hr
  have I0:=I.low h5
  have hlt:∀ b k,nth n.bl b=some k→β b<w.heap.size:=fun b k h=>I.lt b k h
  obtain⟨I1,s1⟩:=I0.take (T:=T) hf (fun h=>Nat.lt_irrefl _ (Nat.lt_of_lt_of_le h.2 h1)) (Nat.le_trans I.bel.size h1) (IntO.lt h3) (fun b k h=>Nat.ne_of_lt (Nat.lt_of_lt_of_le (hlt b k h) h1)) h3 (IntO.soft h3)
  obtain⟨I2,s2⟩:=Inv.take (m:=midN T n) (T:=T) I1 hf2 (fun h=>Nat.lt_irrefl _ (Nat.lt_of_lt_of_le h.2 h2)) (Nat.le_trans I.bel.size h2) (IntO.lt h4) (fun b k h=>by
   rcases nth_snoc h with h|⟨rfl,rfl⟩
   ·show (if b=n.bl.length then z else β b)≠y'
    rw [if_neg (Nat.ne_of_lt (nth_lt h))]
    exact Nat.ne_of_lt (Nat.lt_of_lt_of_le (hlt b k h) h2)
   ·show (if n.bl.length=n.bl.length then z else β _)≠y'
    rw [if_pos rfl];exact hne) h4 (IntO.soft h4)
  have hf' := hf
  simp only [fitB,MS.okB,Bool.and_eq_true] at hf'
  have hf2' := hf2
  simp only [fitB,MS.okB,Bool.and_eq_true] at hf2'
  have G1:=G.same s1 hf'.1.1.1
  have G2:=G1.same s2 hf2'.1.1.1
  have e2:(SV.tup [.o (.p n.bl.length 0),.o (.p (n.bl.length+1) 0)]).d ⟨fun b=>if b=(midN T n).bl.length then y' else (if b=n.bl.length then z else β b),κ', fun q=>if q<(midN T n).nv then (if q<n.nv then ℓ q else .pointer none) else .pointer none⟩=.tuple #[.pointer (some ⟨z,0,none⟩),.pointer (some ⟨y', 0,none⟩)]:=by
   have hl:(midN T n).bl.length=n.bl.length+1:=by show (n.bl++[_]).length=_;simp
   show Value.tuple #[.pointer (some ⟨if n.bl.length=(midN T n).bl.length then y' else (if n.bl.length=n.bl.length then z else β _),0,none⟩),.pointer (some ⟨if n.bl.length+1=(midN T n).bl.length then y' else _,0,none⟩)]=_
   rw [hl,if_neg (by omega),if_pos rfl,if_pos rfl]
  have G3:=put_v G2 o.dst (.tup [.o (.p n.bl.length 0),.o (.p (n.bl.length+1) 0)])
  rw [e2] at G3
  exact hK _ _ (rest.r _ _ _ w' I2 G3)
theorem Run.finI{fn:Func}{R:Ending→World→Prop}{v:(Nat→Nat)→(Nat→Value)→Value}(h:∀ {A:Nat→Prop} β ℓ w,Inv A S W κ Φ ⟨β,κ,ℓ⟩ (runM P far m).bl (runM P far m).sf w→R (.returned (v β ℓ)) w)(hv:∀ β ℓ,(finV P fn.results (runM P far m)).map (SV.d ⟨β,κ,ℓ⟩)=some (v β ℓ):=by intro β ℓ;kernel_rfl):Run P S W κ Φ (bodyPost P fn R) m :=
 run_sound far <| Run.mk fun A0 E a w I A=>by
  obtain⟨β,κ', ℓ⟩:=E
  have e:=I.ek
  simp only at e
  subst e
  have hv:=hv β ℓ
  cases hf:finV P fn.results (runM P far m) with
  | none=>rw [hf] at hv;cases hv
  | some sv =>
   rw [hf] at hv
   have hv:sv.d ⟨β,κ', ℓ⟩=v β ℓ:=Option.some.inj hv
   have hR:=h β ℓ w I
   unfold finV at hf
   cases hdf:(runM P far m).df with
   | cons d ds=>rw [hdf] at hf;cases hf
   | nil =>
   rw [hdf] at hf
   simp only at hf
   split at hf
   ·rename_i hks
    rw [hks]
    have go:∀ (hf:(resL P (runM P far m) fn.results.toList).bind resV=some sv),(results fn a.tmps).run P w=.ok (v β ℓ) w:=by
     intro hf
     cases hl:resL P (runM P far m) fn.results.toList with
     | none=>rw [hl] at hf;cases hf
     | some l =>
      rw [hl] at hf
      rw [← hv]
      exact run_results I A hl hf
    split at hf
    ·rename_i hc;rw [hc];exact⟨A.nd.trans hdf,_,go hf,hR⟩
    ·rename_i hc;rw [hc];exact⟨A.nd.trans hdf,_,go hf,hR⟩
    ·cases hf
   ·cases hf
theorem Run.rNN{fn:Func}{x y:Int}(b c:Nat)(h:∀ {A:Nat→Prop} β ℓ w,Inv A S W κ Φ ⟨β,κ,ℓ⟩ (runM P far m).bl (runM P far m).sf w→(IntO x).p (·=β b) (.pointer (some ⟨β b,0,none⟩)) w∧(IntO y).p (·=β c) (.pointer (some ⟨β c,0,none⟩)) w)(hv:∀ β ℓ,(finV P fn.results (runM P far m)).map (SV.d ⟨β,κ,ℓ⟩)=some (.tuple #[.pointer (some ⟨β b,0,none⟩),.pointer (some ⟨β c,0,none⟩)]):=by intro β ℓ;kernel_rfl)(hb:(nth (runM P far m).bl b).map (·.own)=some true:=by kernel_rfl)(hc:(nth (runM P far m).bl c).map (·.own)=some true:=by kernel_rfl)(hne:Nat.beq b c=false:=by kernel_rfl):Run P S W κ Φ (bodyPost P fn (RetNN x y W)) m :=
 Run.finI (v:=fun β _=>.tuple #[.pointer (some ⟨β b,0,none⟩),.pointer (some ⟨β c,0,none⟩)]) (fun {A} β ℓ w I=>by
  obtain⟨h1,h2⟩:=h β ℓ w I
  cases hk:nth (runM P far m).bl b with
  | none=>rw [hk] at hb;cases hb
  | some k =>
  cases hl:nth (runM P far m).bl c with
  | none=>rw [hl] at hc;cases hc
  | some l =>
   rw [hk,Option.map_some,Option.some.injEq] at hb
   rw [hl,Option.map_some,Option.some.injEq] at hc
   exact⟨β b,β c,rfl,I.inj b c k l hk hl hb hc (fun e=>by subst e;rw [Nat.beq_refl] at hne;cases hne),I.own b k hk hb,I.own c l hl hc,h1,h2,I.bel⟩) hv
end
end Go.Proofs.YtcdbmjnipaochaaGreat.Eng
namespace Go.Proofs.YtcdbmjnipaochaaGreat
open Go.RowKit Rgn Eng
variable {S:Nat→Prop} {W:World}
theorem fWholeN(n:Int):Calls Tryz.prog 173 #[wV n] W (RetV (fV ((n:Int):Rat)) W):=by
 refine Run.goP (S:=Z0) (Pack.nil.k (wV n) (wC n).toList (.s (.agg (ks 0 2)))) Tryz.func173 rfl ?_
 refine Run.dr ?_
 refine RunD.cV (wC 1).toList (.s (.agg (ks 0 2))) (fun _ _ _ H=>rOf 1 (by decide) (by decide)) ?_
 refine RunD.en ?_
 exact Run.rV (fr_int n)
theorem foTwo{v0:Value}(x:Int)(t0:(IntO x).p S v0 W)(p0:hi x≤500000000000):Calls Tryz.prog 151 #[v0] W (Ret (RatP (fdbl x)) Z0 W):=by
 have h1:=hi_add x x
 refine Run.goP (S:=S) (Pack.nil.s spInto t0) Tryz.func151 rfl ?_
 refine Run.cO 1 softInt (fun _ _ _ H=>bLsh1 x (IntO.blk (H.oj 1)) (IntO.p (anyV (H.f 0))) (by omega)) ?_
 refine Run.cO 0 softRat (fun _ _ _ H=>qSetInt (x+x) (RatP.blk (H.oz 0)) (IntO.p (anyV (H.o 1))) (by omega)) ?_
 exact Run.rN (φ:=RatP (fdbl x)) 0 (fun _ _ _ H=>⟨H.ow 0,VPe (φ:=RatP) (rfl) (H.o 0)⟩)
theorem foTimes{v0 v1:Value}(x y:Int)(t0:(IntO x).p S v0 W)(t1:(IntO y).p S v1 W)(p0:hi x+hi y≤1099511627776):Calls Tryz.prog 152 #[v0,v1] W (Ret (IntO (x*y)) Z0 W):=by
 refine Run.goP (S:=S) ((Pack.nil.s spInto t0).s spInto t1) Tryz.func152 rfl ?_
 refine Run.cO 0 softInt (fun _ _ _ H=>bMul x y (IntO.blk (H.oj 0)) (IntO.p (anyV (H.f 0))) (IntO.p (anyV (H.f 1))) p0) ?_
 exact Run.rN (φ:=IntO (x*y)) 0 (fun _ _ _ H=>⟨H.ow 0,H.o 0⟩)
theorem foOver{v0 v1:Value}(p q:Int)(t0:(IntO p).p S v0 W)(t1:(IntO q).p S v1 W)(p0:hi p+hi q≤1000000):Calls Tryz.prog 137 #[v0,v1] W (Ret (RingP (Ci.fo p q)) S W):=by
 have h1:=hi_mul p q
 have h2:=hi_mul q q
 have h3:=hi_mul p p
 have h4:=ht_fdbl (p*q)
 have h5:=ht_fdbl (q*q)
 have h6:=ht_fdbl (p*p)
 have z2:ht (0:Rat)=2:=ht_zero
 have z3:ht (Cx.ofInt 0 1).re+ht (Cx.ofInt 0 1).im=4:=by decide
 have k0:=hc_add (Cx.mk (fdbl (p*q)) 0) (Cx.ofInt 0 1)
 refine Run.goP (S:=S) ((Pack.nil.s spInto t0).s spInto t1) Tryz.func137 rfl ?_
 refine Run.cN 210 softInt ownInt (fun _ _ _ H=>foTimes p q (H.f 0) (H.f 1) (by first|omega|(dsimp only at *;omega))) ?_
 refine Run.cN 212 softRat ownRat (fun _ _ _ H=>foTwo (p*q) (anyV (H.o 1)) (by first|omega|(dsimp only at *;omega))) ?_
 refine Run.se 2 ?_
 refine Run.cR spNum (fun _ _ _ H=>eReal (fdbl (p*q)) (H.s 2)) ?_
 refine Run.cR spNum (fun _ _ _ H=>eInt 0 1 (by decide) (by decide) (by decide) (by decide)) ?_
 refine Run.cR spNum (fun _ _ _ H=>eAdd (Cx.mk (fdbl (p*q)) 0) (Cx.ofInt 0 1) (NumP.mk (H.f 4) (H.f 5)) (NumP.mk (H.f 6) (H.f 7)) (by first|omega|(dsimp only at *;omega))) ?_
 refine Run.dr ?_
 refine RunD.cR spInto (fun _ _ _ H=>retZ (foTimes q q (H.f 1) (H.f 1) (by first|omega|(dsimp only at *;omega)))) ?_
 refine RunD.cR spRat (fun _ _ _ H=>retZ (foTwo (q*q) (H.f 10) (by first|omega|(dsimp only at *;omega)))) ?_
 refine RunD.cR spInto (fun _ _ _ H=>retZ (foTimes p p (H.f 0) (H.f 0) (by first|omega|(dsimp only at *;omega)))) ?_
 refine RunD.cR spRat (fun _ _ _ H=>retZ (foTwo (p*p) (H.f 12) (by first|omega|(dsimp only at *;omega)))) ?_
 refine RunD.en ?_
 exact Run.rR (fun _ _ _ H=>VPe (φ:=RingP) (fo_eq p q) (RingP.mk (H.f 11) (H.f 8) (H.f 9) (H.f 13)))
theorem foTop  : Calls Tryz.prog 134 #[] W (RetV (ciV (Ci.fo 1 0)) W):=by
 have h1:=fo_ht 1 0
 have h2:hi 1=2:=by decide
 have h3:hi 0=1:=by decide
 refine Run.goP (S:=Z0) Pack.nil Tryz.func134 rfl ?_
 refine Run.cR spInto (fun _ _ _ H=>bNewInt 1 (by decide) (by decide)) ?_
 refine Run.cR spInto (fun _ _ _ H=>bNewInt 0 (by decide) (by decide)) ?_
 refine Run.cR spRing (fun _ _ _ H=>foOver 1 0 (H.f 0) (H.f 1) (by omega)) ?_
 refine Run.cV ((rciC (cicut (Ci.fo 1 0))).toList++[.int .i64 (cierr (Ci.fo 1 0))]) (.tup [.agg (ks 0 16),.o (.k 16)]) (fun _ _ _ H=>dsTold (Ci.fo 1 0) (RingP.mk (H.f 2) (H.f 3) (H.f 4) (H.f 5)) (by omega)) ?_
 exact Run.rV (top_eq)
theorem foPrY(x y:Rat)(p0:fits (rf x)=true)(p1:fits (rf y)=true):Calls Tryz.prog 145 #[fV x,fV y] W (Ret (PrP (x) (y) (.bool true)) S W):=by
 refine Run.goP (S:=S) ((Pack.nil.k (fV x) (fC x).toList (.s (.agg (ks 0 4)))).k (fV y) (fC y).toList (.s (.agg (ks 0 4)))) Tryz.func145 rfl ?_
 refine Run.dr ?_
 refine RunD.cR spRat (fun _ _ _ H=>eRatOk x p0) ?_
 refine RunD.cR spRat (fun _ _ _ H=>eRatOk y p1) ?_
 refine RunD.en ?_
 refine Run.np 0 (x) 143 .neq true (.inr ⟨rfl,rfl⟩) (fun c w=>by kernel_rfl) ?_
 refine Run.np 1 (y) 143 .neq true (.inr ⟨rfl,rfl⟩) (fun c w=>by kernel_rfl) ?_
 exact Run.rR (fun _ _ _ H=>⟨_,_,rfl,(H.f 0),(H.f 1)⟩)
theorem den_pos(x:Rat):0<(x.den:Int):=by have:=x.den_pos;omega
theorem num_gcd(x:Rat):Int.gcd x.num (x.den:Int)=1:=by
 have:=x.reduced
 unfold Int.gcd;rw [Int.natAbs_natCast];exact this
theorem may_ok{n:Int}(h:1≤n)(h1:n≤100000):(decide (1≤n)&&decide (n≤100000))=true:=by rw [decide_eq_true h,decide_eq_true h1];rfl
theorem may_1{n:Int}(h:decide (1≤n)=true):Value.bool (decide (n≤100000))=.bool (decide (1≤n)&&decide (n≤100000)):=by rw [h];rfl
theorem may_2{n:Int}(h:decide (1≤n)=false):Value.bool false=.bool (decide (1≤n)&&decide (n≤100000)):=by rw [h];rfl
theorem icmp_ng{x n:Int}(h:x≤n):decide (0<icmp x n)=false:=by
 refine decide_eq_false ?_
 rcases Int.lt_trichotomy x n with e|e|e
 ·rw [icmp_lt e];omega
 ·rw [icmp_eq e];omega
 ·omega
theorem fits38:fits (rf (Rat.divInt 3 8))=true:=fits_ht (by decide +kernel)
theorem cut_yes{q r:Rat}(e:q=r)(h:ht r≤8192):Value.tuple #[rfV (fcut q),.int .i64 (ferr q)]=.tuple #[fV r,.int .i64 0]:=by
 subst e
 unfold fcut ferr;rw [if_pos (fits_ht h),if_pos (fits_ht h)]
theorem cut_eq{q r:Rat}(e:q=r):Value.tuple #[rfV (fcut q),.int .i64 (ferr q)]=.tuple #[rfV (fcut r),.int .i64 (ferr r)]:=by rw [e]
theorem foDet{v0 v1:Value}(a b:Rat)(t0:(RatP a).p S v0 W)(t1:(RatP b).p S v1 W)(p0:ht a+ht b≤1000000):Calls Tryz.prog 146 #[v0,v1] W (Ret (IntO (fdet a b)) Z0 W):=by
 have n0:=hi_num a
 have n1:=hi_den a
 have n2:=hi_num b
 have n3:=hi_den b
 have h1:=hi_mul a.num (b.den:Int)
 have h2:=hi_mul (a.den:Int) b.num
 refine Run.goP (S:=S) ((Pack.nil.s spRat t0).s spRat t1) Tryz.func146 rfl ?_
 refine Run.cR spInto (fun _ _ _ H=>qNum a (H.f 0) (by omega)) ?_
 refine Run.cR spInto (fun _ _ _ H=>qDenom b (H.f 1) (by omega)) ?_
 refine Run.cN 210 softInt ownInt (fun _ _ _ H=>foTimes a.num (b.den:Int) (H.f 2) (H.f 3) (by omega)) ?_
 refine Run.cR spInto (fun _ _ _ H=>qDenom a (H.f 0) (by omega)) ?_
 refine Run.cR spInto (fun _ _ _ H=>qNum b (H.f 1) (by omega)) ?_
 refine Run.cN 210 softInt ownInt (fun _ _ _ H=>foTimes (a.den:Int) b.num (H.f 5) (H.f 6) (by omega)) ?_
 refine Run.cO 0 softInt (fun _ _ _ H=>bSub (a.num*(b.den:Int)) ((a.den:Int)*b.num) (IntO.blk (n:=a.num*(b.den:Int)) (H.o 0)) (IntO.p (anyV (H.o 0))) (IntO.p (anyV (H.o 1))) (by omega)) ?_
 exact Run.rN (φ:=IntO (fdet a b)) 0 (fun _ _ _ H=>⟨H.ow 0,VPe (φ:=IntO) (rfl) (H.o 0)⟩)
theorem foNrY(x y:Rat)(p0:fits (rf x)=true)(p1:fits (rf y)=true):Calls Tryz.prog 45 #[fV x,fV y] W (RetV (.tuple #[.bool (fnbr x y),.int .i64 0]) W):=by
 have f0:=fits_ht_le p0
 have f1:=fits_ht_le p1
 have h1:=fdet_hi x y
 refine Run.goP (S:=Z0) ((Pack.nil.k (fV x) (fC x).toList (.s (.agg (ks 0 4)))).k (fV y) (fC y).toList (.s (.agg (ks 0 4)))) Tryz.func45 rfl ?_
 refine Run.cR (spPr true) (fun _ _ _ H=>foPrY x y p0 p1) ?_
 refine Run.cR spInto (fun _ _ _ H=>retZ (foDet x y (H.f 0) (H.f 1) (by omega))) ?_
 refine Run.cR spInto (fun _ _ _ H=>bNewInt 1 (by decide) (by decide)) ?_
 refine Run.cV [.int .i64 (cmp3 (Int.natAbs (fdet x y)) (Int.natAbs 1))] kb (fun _ _ _ H=>bCmpAbs (fdet x y) 1 (IntO.p (H.f 2)) (IntO.p (H.f 3))) ?_
 refine Run.ic (cmp3 (Int.natAbs (fdet x y)) (Int.natAbs 1)) 0 ((cmp3 (Int.natAbs (fdet x y)) (Int.natAbs 1)) == 0) ?_
 exact Run.rV ((fnbr_1 x y))
theorem foBtY(x y:Rat)(p0:fits (rf x)=true)(p1:fits (rf y)=true):Calls Tryz.prog 46 #[fV x,fV y] W (RetV (.tuple #[rfV (fcut (fbtw x y)),.int .i64 (ferr (fbtw x y))]) W):=by
 have f0:=fits_ht_le p0
 have f1:=fits_ht_le p1
 have h1:=fdet_hi x y
 have n0:=hi_num x
 have n1:=hi_den x
 have n2:=hi_num y
 have n3:=hi_den y
 have h2:=hi_add x.num y.num
 have h3:=hi_add (x.den:Int) (y.den:Int)
 have h4:ht (Rat.divInt (x.num+y.num) ((x.den:Int)+(y.den:Int)))≤ht x+ht y+(ht x+ht y)+1:=fbtw_ht x y
 refine Run.goP (S:=Z0) ((Pack.nil.k (fV x) (fC x).toList (.s (.agg (ks 0 4)))).k (fV y) (fC y).toList (.s (.agg (ks 0 4)))) Tryz.func46 rfl ?_
 refine Run.cR (spPr true) (fun _ _ _ H=>foPrY x y p0 p1) ?_
 refine Run.cR spInto (fun _ _ _ H=>qNum x (H.f 0) (by omega)) ?_
 refine Run.cR spInto (fun _ _ _ H=>qNum y (H.f 1) (by omega)) ?_
 refine Run.cO 3 softInt (fun _ _ _ H=>bAdd x.num y.num (IntO.blk (H.oj 3)) (IntO.p (anyV (H.f 2))) (IntO.p (anyV (H.f 3))) (by omega)) ?_
 refine Run.cR spInto (fun _ _ _ H=>qDenom x (H.f 0) (by omega)) ?_
 refine Run.cR spInto (fun _ _ _ H=>qDenom y (H.f 1) (by omega)) ?_
 refine Run.cO 4 softInt (fun _ _ _ H=>bAdd (x.den:Int) (y.den:Int) (IntO.blk (H.oj 4)) (IntO.p (anyV (H.f 5))) (IntO.p (anyV (H.f 6))) (by omega)) ?_
 refine Run.cO 5 softRat (fun _ _ _ H=>qSetFrac (x.num+y.num) ((x.den:Int)+(y.den:Int)) (RatP.blk (H.oz 5)) (IntO.p (anyV (H.o 3))) (IntO.p (anyV (H.o 4))) (by omega) (by exact den_add_ne x y)) ?_
 refine Run.cV ((rfC (fcut (Rat.divInt (x.num+y.num) ((x.den:Int)+(y.den:Int))))).toList++[.int .i64 (ferr (Rat.divInt (x.num+y.num) ((x.den:Int)+(y.den:Int))))]) (.tup [.agg (ks 0 4),.o (.k 4)]) (fun _ _ _ H=>eFrac (Rat.divInt (x.num+y.num) ((x.den:Int)+(y.den:Int))) (RatP.n (anyV (H.o 5))) (by omega)) ?_
 exact Run.rV (rfl)
theorem rfTop  : Calls Tryz.prog 135 #[] W (RetV (ciV (Ci.fo 1 0)) W):=by
 refine Run.goP (S:=Z0) Pack.nil Tryz.func135 rfl ?_
 refine Run.cV (fC (0:Rat)).toList (.s (.agg (ks 0 4))) (fun _ _ _ H=>fInt 0 (by decide) (by decide)) ?_
 refine Run.cV (gC (Cx.ofInt 0 1)).toList (.s (.agg (ks 0 8))) (fun _ _ _ H=>cInt 0 1 (by decide) (by decide) (by decide) (by decide)) ?_
 refine Run.cV (fC (2:Rat)).toList (.s (.agg (ks 0 4))) (fun _ _ _ H=>fInt 2 (by decide) (by decide)) ?_
 exact Run.rV ((congrArg ciV fo_top))
theorem foUnT(d:Ci)(p0:dsOk (rci d)=true):Calls Tryz.prog 44 #[ciV d] W (RetV (.tuple #[rfV (unR d),.int .i64 (unE d)]) W):=by
 have f0:=cifits_ht (dsOk_c p0).1
 have h1:=ht_div d.b.re d.a
 have h2:=hi_num (d.b.re/d.a)
 have h3:=hi_den (d.b.re/d.a)
 have h4:=fo_ht (d.b.re/d.a).num ((d.b.re/d.a).den:Int)
 refine Run.goP (S:=Z0) (Pack.nil.k (ciV d) (ciC d).toList (.s (.agg (ks 0 16)))) Tryz.func44 rfl ?_
 refine Run.cR (spRingC true) (fun _ _ _ H=>ePlateO d p0) ?_
 refine Run.cV [.int .i64 d.a.num.sign] kb (fun _ _ _ H=>qSign d.a (H.f 0)) ?_
 refine Run.ic d.a.num.sign 0 (decide (d.a.num.sign≤0)) ?_
 refine (Bool.eq_false_or_eq_true (decide (d.a.num.sign≤0))).elim (fun c1=>?_) (fun c1=>?_)
 · refine Run.kn c1 ?_
   exact Run.rV (un_1 c1)
 · refine Run.kn c1 ?_
   refine Run.cR sp2Rat (fun _ _ _ H=>eParts d.b (NumP.mk (H.f 1) (H.f 2))) ?_
   refine Run.cO 3 softRat (fun _ _ _ H=>qQuo d.b.re d.a (RatP.blk (H.oz 3)) (anyV (H.f 4)) (anyV (H.f 0)) (by omega) (by exact sgn_ne c1)) ?_
   refine (Bool.eq_false_or_eq_true (decide ((Ci.fo ((d.b.re/d.a).num) ((d.b.re/d.a).den:Int))=d))).elim (fun c2=>?_) (fun c2=>?_)
   · refine Run.dr ?_
     refine RunD.cRs [3] spInto (fun _ _ _ H=>qNum (d.b.re/d.a) (H.s 3) (by omega)) ?_
     refine RunD.cRs [3] spInto (fun _ _ _ H=>qDenom (d.b.re/d.a) (H.s 3) (by omega)) ?_
     refine RunD.cR spRing (fun _ _ _ H=>foOver ((d.b.re/d.a).num) ((d.b.re/d.a).den:Int) (H.f 7) (H.f 8) (by omega)) ?_
     refine RunD.cV [] (cb true) (fun _ _ _ H=>dsSame (Ci.fo ((d.b.re/d.a).num) ((d.b.re/d.a).den:Int)) d (RingP.mk (H.f 9) (H.f 10) (H.f 11) (H.f 12)) (RingP.mk (H.f 0) (H.f 1) (H.f 2) (H.f 3)) (by omega)) ?_ (hV:=fun _ _=>congrArg Value.bool c2)
     refine RunD.en ?_
     refine Run.cV ((rfC (fcut (d.b.re/d.a))).toList++[.int .i64 (ferr (d.b.re/d.a))]) (.tup [.agg (ks 0 4),.o (.k 4)]) (fun _ _ _ H=>eFrac (d.b.re/d.a) (RatP.n (H.s 3)) (by omega)) ?_
     exact Run.rV (un_2 c1 c2)
   · refine Run.dr ?_
     refine RunD.cRs [3] spInto (fun _ _ _ H=>qNum (d.b.re/d.a) (H.s 3) (by omega)) ?_
     refine RunD.cRs [3] spInto (fun _ _ _ H=>qDenom (d.b.re/d.a) (H.s 3) (by omega)) ?_
     refine RunD.cR spRing (fun _ _ _ H=>foOver ((d.b.re/d.a).num) ((d.b.re/d.a).den:Int) (H.f 7) (H.f 8) (by omega)) ?_
     refine RunD.cV [] (cb false) (fun _ _ _ H=>dsSame (Ci.fo ((d.b.re/d.a).num) ((d.b.re/d.a).den:Int)) d (RingP.mk (H.f 9) (H.f 10) (H.f 11) (H.f 12)) (RingP.mk (H.f 0) (H.f 1) (H.f 2) (H.f 3)) (by omega)) ?_ (hV:=fun _ _=>congrArg Value.bool c2)
     refine RunD.en ?_
     exact Run.rV (un_3 c1 c2)
theorem l23num(n:Int):Calls Tryz.prog 49 #[.int .i64 n] W (RetV (.int .i64 n) W):=by
 refine Run.goP (S:=Z0) (Pack.nil.k (.int .i64 n) [.int .i64 n] kb) Tryz.func49 rfl ?_
 exact Run.rV rfl
theorem l23of(a b:Int)(p0:-9223372036854775808≤a)(p1:a≤9223372036854775807)(p2:-9223372036854775808≤b)(p3:b≤9223372036854775807)(p4:b≠0):Calls Tryz.prog 58 #[.int .i64 a,.int .i64 b] W (RetV (fV (Rat.divInt a b)) W):=by
 refine Run.goP (S:=Z0) ((Pack.nil.k (.int .i64 a) [.int .i64 a] kb).k (.int .i64 b) [.int .i64 b] kb) Tryz.func58 rfl ?_
 refine Run.cV (fC (Rat.divInt a b)).toList (.s (.agg (ks 0 4))) (fun _ _ _ H=>fSmall a b p0 p1 p2 p3 p4) ?_
 exact Run.rV rfl
theorem foBes{v0 v1:Value}(p q:Int)(t0:(IntO p).p S v0 W)(t1:(IntO q).p S v1 W)(p0:0<q)(p1:q≤100000)(p2:Int.gcd p q=1)(p3:hi p≤1000000):Calls Tryz.prog 288 #[v0,v1] W (RetNN (besR p q) (besS p q) W):=by
 have h1:=hi_neg p
 have h2:=hi_small p0 p1
 have h3:=bes_hi p0 p1 p2
 have h4:=hi_mul p (besS p q)
 have h5:=hi_add (p*besS p q) 1
 have h6:hi 1=2:=by decide
 refine Run.goP (S:=S) ((Pack.nil.s spInto t0).s spInto t1) Tryz.func288 rfl ?_
 refine Run.cO 1 softInt (fun _ _ _ H=>bNegI p (IntO.blk (H.oj 1)) (IntO.p (anyV (H.f 0))) (by first|omega|(rw [bes_1 _] at h3 h4 h5;omega)|(rw [bes_0 _] at h3 h4 h5;omega))) ?_
 refine Run.cO 0 softInt (fun _ _ _ H=>bModInv (-p) q (IntO.blk (H.oj 0)) (IntO.p (anyV (H.o 1))) (IntO.p (anyV (H.f 1))) (by first|omega|(rw [bes_1 _] at h3 h4 h5;omega)|(rw [bes_0 _] at h3 h4 h5;omega)) p0 (by exact gcd_nm p2)) ?_
 refine Run.cV [] (cb true) (fun _ _ _ H=>bIs64 q (IntO.p (H.f 1)) p0 (by first|omega|(rw [bes_1 _] at h3 h4 h5;omega)|(rw [bes_0 _] at h3 h4 h5;omega))) ?_
 refine Run.cV [.int .i64 q] kb (fun _ _ _ H=>bInt64 q (IntO.p (H.f 1)) p0 (by first|omega|(rw [bes_1 _] at h3 h4 h5;omega)|(rw [bes_0 _] at h3 h4 h5;omega))) ?_
 refine Run.ic q 1 (q == 1) ?_
 refine (Bool.eq_false_or_eq_true (q == 1)).elim (fun c1=>?_) (fun c1=>?_)
 · refine Run.kn c1 ?_
   refine Run.cN 210 softInt ownInt (fun _ _ _ H=>bNewI 1 (by decide) (by decide)) ?_
   refine Run.cN 210 softInt ownInt (fun _ _ _ H=>foTimes p 1 (anyV (H.f 0)) (anyV (H.o 2)) (by first|omega|(rw [bes_1 c1] at h3 h4 h5;omega)|(rw [bes_0 c1] at h3 h4 h5;omega))) ?_
   refine Run.cN 210 softInt ownInt (fun _ _ _ H=>bNewI 1 (by decide) (by decide)) ?_
   refine Run.cO 3 softInt (fun _ _ _ H=>bAdd (p*1) 1 (IntO.blk (n:=p*1) (H.o 3)) (IntO.p (anyV (H.o 3))) (IntO.p (anyV (H.o 4))) (by first|omega|(rw [bes_1 c1] at h3 h4 h5;omega)|(rw [bes_0 c1] at h3 h4 h5;omega))) ?_
   refine Run.cO 3 softInt (fun _ _ _ H=>bQuo ((p*1)+1) q (IntO.blk (n:=(p*1)+1) (H.o 3)) (IntO.p (anyV (H.o 3))) (IntO.p (anyV (H.f 1))) (by first|omega|(rw [bes_1 c1] at h3 h4 h5;omega)|(rw [bes_0 c1] at h3 h4 h5;omega)) (by first|omega|(rw [bes_1 c1] at h3 h4 h5;omega)|(rw [bes_0 c1] at h3 h4 h5;omega))) ?_
   exact Run.rNN (x:=besR p q) (y:=besS p q) 3 2 (fun _ _ _ H=>⟨VPe (φ:=IntO) (bes_r1 c1) (H.o 3),VPe (φ:=IntO) (bes_s1 c1) (H.o 2)⟩)
 · refine Run.kn c1 ?_
   refine Run.cN 210 softInt ownInt (fun _ _ _ H=>foTimes p (minv (-p) q) (anyV (H.f 0)) (anyV (H.o 0)) (by first|omega|(rw [bes_1 c1] at h3 h4 h5;omega)|(rw [bes_0 c1] at h3 h4 h5;omega))) ?_
   refine Run.cN 210 softInt ownInt (fun _ _ _ H=>bNewI 1 (by decide) (by decide)) ?_
   refine Run.cO 2 softInt (fun _ _ _ H=>bAdd (p*(minv (-p) q)) 1 (IntO.blk (n:=p*(minv (-p) q)) (H.o 2)) (IntO.p (anyV (H.o 2))) (IntO.p (anyV (H.o 3))) (by first|omega|(rw [bes_1 c1] at h3 h4 h5;omega)|(rw [bes_0 c1] at h3 h4 h5;omega))) ?_
   refine Run.cO 2 softInt (fun _ _ _ H=>bQuo ((p*(minv (-p) q))+1) q (IntO.blk (n:=(p*(minv (-p) q))+1) (H.o 2)) (IntO.p (anyV (H.o 2))) (IntO.p (anyV (H.f 1))) (by first|omega|(rw [bes_1 c1] at h3 h4 h5;omega)|(rw [bes_0 c1] at h3 h4 h5;omega)) (by first|omega|(rw [bes_1 c1] at h3 h4 h5;omega)|(rw [bes_0 c1] at h3 h4 h5;omega))) ?_
   exact Run.rNN (x:=besR p q) (y:=besS p q) 2 0 (fun _ _ _ H=>⟨VPe (φ:=IntO) (bes_r0 c1) (H.o 2),VPe (φ:=IntO) (bes_s0 c1) (H.o 0)⟩)
theorem foNx{v0 v1:Value}(p q n:Int)(t0:(IntO p).p S v0 W)(t1:(IntO q).p S v1 W)(p0:0<q)(p1:q≤100000)(p2:Int.gcd p q=1)(p3:hi p≤1000000)(p4:q≤n)(p5:n≤100000):Calls Tryz.prog 206 #[v0,v1,.int .i64 n] W (Ret (RatP (fnxt p q n)) Z0 W):=by
 have h2:=hi_small p0 p1
 obtain⟨h3,h4,h5,h6,h7,h8,h9,g1,g2⟩:=nx_hi p0 p1 p2 p4 p5
 refine Run.goP (S:=S) (((Pack.nil.s spInto t0).s spInto t1).k (.int .i64 n) [.int .i64 n] kb) Tryz.func206 rfl ?_
 refine Run.cNN 210 (fun _ _ _ H=>foBes p q (H.f 0) (H.f 1) p0 p1 p2 p3) ?_
 refine Run.cR spInto (fun _ _ _ H=>bNewInt n (by omega) (by omega)) ?_
 refine Run.cO 2 softInt (fun _ _ _ H=>bSub n (besS p q) (IntO.blk (H.oj 2)) (IntO.p (anyV (H.f 4))) (IntO.p (anyV (H.o 1))) (by omega)) ?_
 refine Run.cO 2 softInt (fun _ _ _ H=>bDiv (n-(besS p q)) q (IntO.blk (n:=n-(besS p q)) (H.o 2)) (IntO.p (anyV (H.o 2))) (IntO.p (anyV (H.f 1))) (by omega) (by first|exact (Int.ne_of_gt p0)|exact nx_ne p0 p2 p4)) ?_
 refine Run.cN 210 softInt ownInt (fun _ _ _ H=>foTimes ((n-(besS p q))/q) q (anyV (H.o 2)) (anyV (H.f 1)) (by omega)) ?_
 refine Run.cO 1 softInt (fun _ _ _ H=>bAdd (besS p q) (((n-(besS p q))/q)*q) (IntO.blk (n:=besS p q) (H.o 1)) (IntO.p (anyV (H.o 1))) (IntO.p (anyV (H.o 3))) (by omega)) ?_
 refine Run.cN 210 softInt ownInt (fun _ _ _ H=>foTimes ((n-(besS p q))/q) p (anyV (H.o 2)) (anyV (H.f 0)) (by omega)) ?_
 refine Run.cO 0 softInt (fun _ _ _ H=>bAdd (besR p q) (((n-(besS p q))/q)*p) (IntO.blk (n:=besR p q) (H.o 0)) (IntO.p (anyV (H.o 0))) (IntO.p (anyV (H.o 4))) (by omega)) ?_
 refine Run.cO 5 softRat (fun _ _ _ H=>qSetFrac ((besR p q)+(((n-(besS p q))/q)*p)) ((besS p q)+(((n-(besS p q))/q)*q)) (RatP.blk (H.oz 5)) (IntO.p (anyV (H.o 0))) (IntO.p (anyV (H.o 1))) (by omega) (by first|exact (Int.ne_of_gt p0)|exact nx_ne p0 p2 p4)) ?_
 exact Run.rN (φ:=RatP (fnxt p q n)) 5 (fun _ _ _ H=>⟨H.ow 5,VPe (φ:=RatP) (rfl) (H.o 5)⟩)
theorem foMay(n:Int):Calls Tryz.prog 209 #[.int .i64 n] W (RetV (.bool (decide (1≤n)&&decide (n≤100000))) W):=by
 refine Run.goP (S:=Z0) (Pack.nil.k (.int .i64 n) [.int .i64 n] kb) Tryz.func209 rfl ?_
 refine Run.ic n 1 (decide (1≤n)) ?_
 refine (Bool.eq_false_or_eq_true (decide (1≤n))).elim (fun c1=>?_) (fun c1=>?_)
 · refine Run.kn c1 ?_
   refine Run.ic n 100000 (decide (n≤100000)) ?_
   exact Run.rV ((may_1 c1))
 · refine Run.kn c1 ?_
   exact Run.rV ((may_2 c1))
theorem foSpY(x:Rat)(n:Int)(p0:fits (rf x)=true)(p1:1≤n)(p2:n≤100000)(p3:(x.den:Int)≤n):Calls Tryz.prog 205 #[fV x,.int .i64 n] W (Ret (PiP (x.num) ((x.den:Int)) (.bool true)) S W):=by
 have f0:=fits_ht_le p0
 have n0:=hi_num x
 have n1:=hi_den x
 have h1:=hi_i64 (show -9223372036854775808≤n by omega) (show n≤9223372036854775807 by omega)
 refine Run.goP (S:=S) ((Pack.nil.k (fV x) (fC x).toList (.s (.agg (ks 0 4)))).k (.int .i64 n) [.int .i64 n] kb) Tryz.func205 rfl ?_
 refine Run.cR spRat (fun _ _ _ H=>eRatOk x p0) ?_
 refine Run.np 0 (x) 143 .eql false (.inl ⟨rfl,rfl⟩) (fun c w=>by kernel_rfl) ?_
 refine Run.cV [.bool (decide (1≤n)&&decide (n≤100000))] kb (fun _ _ _ H=>foMay n) ?_
 refine Run.kn (may_ok p1 p2) ?_
 refine Run.cR spInto (fun _ _ _ H=>qDenom x (H.f 0) (by omega)) ?_
 refine Run.cR spInto (fun _ _ _ H=>bNewInt n (by omega) (by omega)) ?_
 refine Run.cV [.int .i64 (icmp (x.den:Int) n)] kb (fun _ _ _ H=>bCmp (x.den:Int) n (IntO.p (H.f 1)) (IntO.p (H.f 2)) (by omega)) ?_
 refine Run.ic (icmp (x.den:Int) n) 0 (decide (0<(icmp (x.den:Int) n))) ?_
 refine Run.kn (icmp_ng p3) ?_
 refine Run.cR spInto (fun _ _ _ H=>qNum x (H.f 0) (by omega)) ?_
 refine Run.cR spInto (fun _ _ _ H=>qDenom x (H.f 0) (by omega)) ?_
 exact Run.rR (fun _ _ _ H=>⟨_,_,rfl,(H.f 3),(H.f 4)⟩)
theorem foNxY(x:Rat)(n:Int)(p0:fits (rf x)=true)(p1:1≤n)(p2:n≤100000)(p3:(x.den:Int)≤n):Calls Tryz.prog 76 #[fV x,.int .i64 n] W (RetV (.tuple #[rfV (fcut (fnxt x.num (x.den:Int) n)),.int .i64 (ferr (fnxt x.num (x.den:Int) n))]) W):=by
 have f0:=fits_ht_le p0
 have n0:=hi_num x
 have n1:=hi_den x
 have h1:=fnxt_ht (den_pos x) (show (x.den:Int)≤100000 by omega) (num_gcd x) p3 p2
 refine Run.goP (S:=Z0) ((Pack.nil.k (fV x) (fC x).toList (.s (.agg (ks 0 4)))).k (.int .i64 n) [.int .i64 n] kb) Tryz.func76 rfl ?_
 refine Run.cR (spIr true) (fun _ _ _ H=>foSpY x n p0 p1 p2 p3) ?_
 refine Run.cR spRat (fun _ _ _ H=>retZ (foNx x.num (x.den:Int) n (H.f 0) (H.f 1) (by exact den_pos x) (by omega) (by exact num_gcd x) (by omega) p3 p2)) ?_
 refine Run.cV ((rfC (fcut (fnxt x.num (x.den:Int) n))).toList++[.int .i64 (ferr (fnxt x.num (x.den:Int) n))]) (.tup [.agg (ks 0 4),.o (.k 4)]) (fun _ _ _ H=>eFrac (fnxt x.num (x.den:Int) n) (RatP.n (H.f 2)) (by omega)) ?_
 exact Run.rV rfl
theorem foBestW  : Calls Tryz.prog 78 #[fV (Rat.divInt 3 8),.int .i64 2] W (RetV (.tuple #[rfV (fcut (Rat.divInt 1 2)),.int .i64 (ferr (Rat.divInt 1 2))]) W):=by
 refine Run.goP (S:=Z0) ((Pack.nil.k (fV (Rat.divInt 3 8)) (fC (Rat.divInt 3 8)).toList (.s (.agg (ks 0 4)))).k (.int .i64 2) [] (.s (.o (.c (.int .i64 2))))) Tryz.func78 rfl ?_
 refine Run.cR spRat (fun _ _ _ H=>eRatOk (Rat.divInt 3 8) (by exact fits38)) ?_
 refine Run.np 0 ((Rat.divInt 3 8)) 143 .eql false (.inl ⟨rfl,rfl⟩) (fun c w=>by kernel_rfl) ?_
 refine Run.cV [.bool (decide (1≤2)&&decide (2≤100000))] kb (fun _ _ _ H=>foMay 2) ?_
 refine Run.kn (show (decide (1≤2)&&decide (2≤100000))=true by decide +kernel) ?_
 refine Run.cR spInto (fun _ _ _ H=>qDenom (Rat.divInt 3 8) (H.f 0) (by decide +kernel)) ?_
 refine Run.cR spInto (fun _ _ _ H=>bNewInt 2 (by decide) (by decide)) ?_
 refine Run.cV [.int .i64 (icmp ((Rat.divInt 3 8).den:Int) 2)] kb (fun _ _ _ H=>bCmp ((Rat.divInt 3 8).den:Int) 2 (IntO.p (H.f 1)) (IntO.p (H.f 2)) (by decide +kernel)) ?_
 refine Run.ic (icmp ((Rat.divInt 3 8).den:Int) 2) 0 (decide ((icmp ((Rat.divInt 3 8).den:Int) 2)≤0)) ?_
 refine Run.kn (show (decide ((icmp ((Rat.divInt 3 8).den:Int) 2)≤0))=false by decide +kernel) ?_
 refine Run.cR spInto (fun _ _ _ H=>qNum (Rat.divInt 3 8) (H.f 0) (by decide +kernel)) ?_
 refine Run.cR spInto (fun _ _ _ H=>qDenom (Rat.divInt 3 8) (H.f 0) (by decide +kernel)) ?_
 refine Run.cO 2 softInt (fun _ _ _ H=>bDiv ((Rat.divInt 3 8).num) ((Rat.divInt 3 8).den:Int) (IntO.blk (H.oj 2)) (IntO.p (anyV (H.f 3))) (IntO.p (anyV (H.f 4))) (by decide +kernel) (by decide +kernel)) ?_
 refine Run.cO 3 softRat (fun _ _ _ H=>qSetInt (((Rat.divInt 3 8).num)/((Rat.divInt 3 8).den:Int)) (RatP.blk (H.oz 3)) (IntO.p (anyV (H.o 2))) (by decide +kernel)) ?_
 refine Run.cR spInto (fun _ _ _ H=>bNewInt 1 (by decide) (by decide)) ?_
 refine Run.cO 5 softInt (fun _ _ _ H=>bAdd (((Rat.divInt 3 8).num)/((Rat.divInt 3 8).den:Int)) 1 (IntO.blk (H.oj 5)) (IntO.p (anyV (H.o 2))) (IntO.p (anyV (H.f 7))) (by decide +kernel)) ?_
 refine Run.cO 4 softRat (fun _ _ _ H=>qSetInt ((((Rat.divInt 3 8).num)/((Rat.divInt 3 8).den:Int))+1) (RatP.blk (H.oz 4)) (IntO.p (anyV (H.o 5))) (by decide +kernel)) ?_
 refine Run.cR spInto (fun _ _ _ H=>bNewInt 2 (by decide) (by decide)) ?_
 refine Run.se 3 ?_
 refine Run.cR spInto (fun _ _ _ H=>qDenom (((((Rat.divInt 3 8).num)/((Rat.divInt 3 8).den:Int)):Int):Rat) (H.s 3) (by decide +kernel)) ?_
 refine Run.se 4 ?_
 refine Run.cR spInto (fun _ _ _ H=>qDenom ((((((Rat.divInt 3 8).num)/((Rat.divInt 3 8).den:Int))+1):Int):Rat) (H.s 4) (by decide +kernel)) ?_
 refine Run.cO 6 softInt (fun _ _ _ H=>bAdd ((((((Rat.divInt 3 8).num)/((Rat.divInt 3 8).den:Int)):Int):Rat).den:Int) (((((((Rat.divInt 3 8).num)/((Rat.divInt 3 8).den:Int))+1):Int):Rat).den:Int) (IntO.blk (H.oj 6)) (IntO.p (anyV (H.f 11))) (IntO.p (anyV (H.f 12))) (by decide +kernel)) ?_
 refine Run.cV [.int .i64 (icmp (((((((Rat.divInt 3 8).num)/((Rat.divInt 3 8).den:Int)):Int):Rat).den:Int)+(((((((Rat.divInt 3 8).num)/((Rat.divInt 3 8).den:Int))+1):Int):Rat).den:Int)) 2)] kb (fun _ _ _ H=>bCmp (((((((Rat.divInt 3 8).num)/((Rat.divInt 3 8).den:Int)):Int):Rat).den:Int)+(((((((Rat.divInt 3 8).num)/((Rat.divInt 3 8).den:Int))+1):Int):Rat).den:Int)) 2 (IntO.p (anyV (H.o 6))) (IntO.p (anyV (H.f 10))) (by decide +kernel)) ?_
 refine Run.ic (icmp (((((((Rat.divInt 3 8).num)/((Rat.divInt 3 8).den:Int)):Int):Rat).den:Int)+(((((((Rat.divInt 3 8).num)/((Rat.divInt 3 8).den:Int))+1):Int):Rat).den:Int)) 2) 0 (decide (0<(icmp (((((((Rat.divInt 3 8).num)/((Rat.divInt 3 8).den:Int)):Int):Rat).den:Int)+(((((((Rat.divInt 3 8).num)/((Rat.divInt 3 8).den:Int))+1):Int):Rat).den:Int)) 2))) ?_
 refine Run.kn (show (decide (0<(icmp (((((((Rat.divInt 3 8).num)/((Rat.divInt 3 8).den:Int)):Int):Rat).den:Int)+(((((((Rat.divInt 3 8).num)/((Rat.divInt 3 8).den:Int))+1):Int):Rat).den:Int)) 2)))=false by decide +kernel) ?_
 refine Run.cR spInto (fun _ _ _ H=>qNum (((((Rat.divInt 3 8).num)/((Rat.divInt 3 8).den:Int)):Int):Rat) (H.s 3) (by decide +kernel)) ?_
 refine Run.cR spInto (fun _ _ _ H=>qNum ((((((Rat.divInt 3 8).num)/((Rat.divInt 3 8).den:Int))+1):Int):Rat) (H.s 4) (by decide +kernel)) ?_
 refine Run.cO 8 softInt (fun _ _ _ H=>bAdd ((((((Rat.divInt 3 8).num)/((Rat.divInt 3 8).den:Int)):Int):Rat).num) (((((((Rat.divInt 3 8).num)/((Rat.divInt 3 8).den:Int))+1):Int):Rat).num) (IntO.blk (H.oj 8)) (IntO.p (anyV (H.f 14))) (IntO.p (anyV (H.f 15))) (by decide +kernel)) ?_
 refine Run.cO 7 softRat (fun _ _ _ H=>qSetFrac (((((((Rat.divInt 3 8).num)/((Rat.divInt 3 8).den:Int)):Int):Rat).num)+(((((((Rat.divInt 3 8).num)/((Rat.divInt 3 8).den:Int))+1):Int):Rat).num)) (((((((Rat.divInt 3 8).num)/((Rat.divInt 3 8).den:Int)):Int):Rat).den:Int)+(((((((Rat.divInt 3 8).num)/((Rat.divInt 3 8).den:Int))+1):Int):Rat).den:Int)) (RatP.blk (H.oz 7)) (IntO.p (anyV (H.o 8))) (IntO.p (anyV (H.o 6))) (by decide +kernel) (by decide +kernel)) ?_
 refine Run.cV [.int .i64 (icmp ((Rat.divInt (((((((Rat.divInt 3 8).num)/((Rat.divInt 3 8).den:Int)):Int):Rat).num)+(((((((Rat.divInt 3 8).num)/((Rat.divInt 3 8).den:Int))+1):Int):Rat).num)) (((((((Rat.divInt 3 8).num)/((Rat.divInt 3 8).den:Int)):Int):Rat).den:Int)+(((((((Rat.divInt 3 8).num)/((Rat.divInt 3 8).den:Int))+1):Int):Rat).den:Int))).num*((Rat.divInt 3 8).den:Int)) ((Rat.divInt 3 8).num*((Rat.divInt (((((((Rat.divInt 3 8).num)/((Rat.divInt 3 8).den:Int)):Int):Rat).num)+(((((((Rat.divInt 3 8).num)/((Rat.divInt 3 8).den:Int))+1):Int):Rat).num)) (((((((Rat.divInt 3 8).num)/((Rat.divInt 3 8).den:Int)):Int):Rat).den:Int)+(((((((Rat.divInt 3 8).num)/((Rat.divInt 3 8).den:Int))+1):Int):Rat).den:Int))).den:Int)))] kb (fun _ _ _ H=>qCmp (Rat.divInt (((((((Rat.divInt 3 8).num)/((Rat.divInt 3 8).den:Int)):Int):Rat).num)+(((((((Rat.divInt 3 8).num)/((Rat.divInt 3 8).den:Int))+1):Int):Rat).num)) (((((((Rat.divInt 3 8).num)/((Rat.divInt 3 8).den:Int)):Int):Rat).den:Int)+(((((((Rat.divInt 3 8).num)/((Rat.divInt 3 8).den:Int))+1):Int):Rat).den:Int))) (Rat.divInt 3 8) (anyV (H.o 7)) (anyV (H.f 0)) (by decide +kernel)) ?_
 refine Run.ic (icmp ((Rat.divInt (((((((Rat.divInt 3 8).num)/((Rat.divInt 3 8).den:Int)):Int):Rat).num)+(((((((Rat.divInt 3 8).num)/((Rat.divInt 3 8).den:Int))+1):Int):Rat).num)) (((((((Rat.divInt 3 8).num)/((Rat.divInt 3 8).den:Int)):Int):Rat).den:Int)+(((((((Rat.divInt 3 8).num)/((Rat.divInt 3 8).den:Int))+1):Int):Rat).den:Int))).num*((Rat.divInt 3 8).den:Int)) ((Rat.divInt 3 8).num*((Rat.divInt (((((((Rat.divInt 3 8).num)/((Rat.divInt 3 8).den:Int)):Int):Rat).num)+(((((((Rat.divInt 3 8).num)/((Rat.divInt 3 8).den:Int))+1):Int):Rat).num)) (((((((Rat.divInt 3 8).num)/((Rat.divInt 3 8).den:Int)):Int):Rat).den:Int)+(((((((Rat.divInt 3 8).num)/((Rat.divInt 3 8).den:Int))+1):Int):Rat).den:Int))).den:Int))) 0 (decide ((icmp ((Rat.divInt (((((((Rat.divInt 3 8).num)/((Rat.divInt 3 8).den:Int)):Int):Rat).num)+(((((((Rat.divInt 3 8).num)/((Rat.divInt 3 8).den:Int))+1):Int):Rat).num)) (((((((Rat.divInt 3 8).num)/((Rat.divInt 3 8).den:Int)):Int):Rat).den:Int)+(((((((Rat.divInt 3 8).num)/((Rat.divInt 3 8).den:Int))+1):Int):Rat).den:Int))).num*((Rat.divInt 3 8).den:Int)) ((Rat.divInt 3 8).num*((Rat.divInt (((((((Rat.divInt 3 8).num)/((Rat.divInt 3 8).den:Int)):Int):Rat).num)+(((((((Rat.divInt 3 8).num)/((Rat.divInt 3 8).den:Int))+1):Int):Rat).num)) (((((((Rat.divInt 3 8).num)/((Rat.divInt 3 8).den:Int)):Int):Rat).den:Int)+(((((((Rat.divInt 3 8).num)/((Rat.divInt 3 8).den:Int))+1):Int):Rat).den:Int))).den:Int)))<0)) ?_
 refine Run.kn (show (decide ((icmp ((Rat.divInt (((((((Rat.divInt 3 8).num)/((Rat.divInt 3 8).den:Int)):Int):Rat).num)+(((((((Rat.divInt 3 8).num)/((Rat.divInt 3 8).den:Int))+1):Int):Rat).num)) (((((((Rat.divInt 3 8).num)/((Rat.divInt 3 8).den:Int)):Int):Rat).den:Int)+(((((((Rat.divInt 3 8).num)/((Rat.divInt 3 8).den:Int))+1):Int):Rat).den:Int))).num*((Rat.divInt 3 8).den:Int)) ((Rat.divInt 3 8).num*((Rat.divInt (((((((Rat.divInt 3 8).num)/((Rat.divInt 3 8).den:Int)):Int):Rat).num)+(((((((Rat.divInt 3 8).num)/((Rat.divInt 3 8).den:Int))+1):Int):Rat).num)) (((((((Rat.divInt 3 8).num)/((Rat.divInt 3 8).den:Int)):Int):Rat).den:Int)+(((((((Rat.divInt 3 8).num)/((Rat.divInt 3 8).den:Int))+1):Int):Rat).den:Int))).den:Int)))<0))=false by decide +kernel) ?_
 refine Run.cR spInto (fun _ _ _ H=>qDenom (((((Rat.divInt 3 8).num)/((Rat.divInt 3 8).den:Int)):Int):Rat) (H.s 3) (by decide +kernel)) ?_
 refine Run.se 7 ?_
 refine Run.cR spInto (fun _ _ _ H=>qDenom (Rat.divInt (((((((Rat.divInt 3 8).num)/((Rat.divInt 3 8).den:Int)):Int):Rat).num)+(((((((Rat.divInt 3 8).num)/((Rat.divInt 3 8).den:Int))+1):Int):Rat).num)) (((((((Rat.divInt 3 8).num)/((Rat.divInt 3 8).den:Int)):Int):Rat).den:Int)+(((((((Rat.divInt 3 8).num)/((Rat.divInt 3 8).den:Int))+1):Int):Rat).den:Int))) (H.s 7) (by decide +kernel)) ?_
 refine Run.cO 9 softInt (fun _ _ _ H=>bAdd ((((((Rat.divInt 3 8).num)/((Rat.divInt 3 8).den:Int)):Int):Rat).den:Int) ((Rat.divInt (((((((Rat.divInt 3 8).num)/((Rat.divInt 3 8).den:Int)):Int):Rat).num)+(((((((Rat.divInt 3 8).num)/((Rat.divInt 3 8).den:Int))+1):Int):Rat).num)) (((((((Rat.divInt 3 8).num)/((Rat.divInt 3 8).den:Int)):Int):Rat).den:Int)+(((((((Rat.divInt 3 8).num)/((Rat.divInt 3 8).den:Int))+1):Int):Rat).den:Int))).den:Int) (IntO.blk (H.oj 9)) (IntO.p (anyV (H.f 18))) (IntO.p (anyV (H.f 19))) (by decide +kernel)) ?_
 refine Run.cV [.int .i64 (icmp (((((((Rat.divInt 3 8).num)/((Rat.divInt 3 8).den:Int)):Int):Rat).den:Int)+((Rat.divInt (((((((Rat.divInt 3 8).num)/((Rat.divInt 3 8).den:Int)):Int):Rat).num)+(((((((Rat.divInt 3 8).num)/((Rat.divInt 3 8).den:Int))+1):Int):Rat).num)) (((((((Rat.divInt 3 8).num)/((Rat.divInt 3 8).den:Int)):Int):Rat).den:Int)+(((((((Rat.divInt 3 8).num)/((Rat.divInt 3 8).den:Int))+1):Int):Rat).den:Int))).den:Int)) 2)] kb (fun _ _ _ H=>bCmp (((((((Rat.divInt 3 8).num)/((Rat.divInt 3 8).den:Int)):Int):Rat).den:Int)+((Rat.divInt (((((((Rat.divInt 3 8).num)/((Rat.divInt 3 8).den:Int)):Int):Rat).num)+(((((((Rat.divInt 3 8).num)/((Rat.divInt 3 8).den:Int))+1):Int):Rat).num)) (((((((Rat.divInt 3 8).num)/((Rat.divInt 3 8).den:Int)):Int):Rat).den:Int)+(((((((Rat.divInt 3 8).num)/((Rat.divInt 3 8).den:Int))+1):Int):Rat).den:Int))).den:Int)) 2 (IntO.p (anyV (H.o 9))) (IntO.p (anyV (H.f 10))) (by decide +kernel)) ?_
 refine Run.ic (icmp (((((((Rat.divInt 3 8).num)/((Rat.divInt 3 8).den:Int)):Int):Rat).den:Int)+((Rat.divInt (((((((Rat.divInt 3 8).num)/((Rat.divInt 3 8).den:Int)):Int):Rat).num)+(((((((Rat.divInt 3 8).num)/((Rat.divInt 3 8).den:Int))+1):Int):Rat).num)) (((((((Rat.divInt 3 8).num)/((Rat.divInt 3 8).den:Int)):Int):Rat).den:Int)+(((((((Rat.divInt 3 8).num)/((Rat.divInt 3 8).den:Int))+1):Int):Rat).den:Int))).den:Int)) 2) 0 (decide (0<(icmp (((((((Rat.divInt 3 8).num)/((Rat.divInt 3 8).den:Int)):Int):Rat).den:Int)+((Rat.divInt (((((((Rat.divInt 3 8).num)/((Rat.divInt 3 8).den:Int)):Int):Rat).num)+(((((((Rat.divInt 3 8).num)/((Rat.divInt 3 8).den:Int))+1):Int):Rat).num)) (((((((Rat.divInt 3 8).num)/((Rat.divInt 3 8).den:Int)):Int):Rat).den:Int)+(((((((Rat.divInt 3 8).num)/((Rat.divInt 3 8).den:Int))+1):Int):Rat).den:Int))).den:Int)) 2))) ?_
 refine Run.kn (show (decide (0<(icmp (((((((Rat.divInt 3 8).num)/((Rat.divInt 3 8).den:Int)):Int):Rat).den:Int)+((Rat.divInt (((((((Rat.divInt 3 8).num)/((Rat.divInt 3 8).den:Int)):Int):Rat).num)+(((((((Rat.divInt 3 8).num)/((Rat.divInt 3 8).den:Int))+1):Int):Rat).num)) (((((((Rat.divInt 3 8).num)/((Rat.divInt 3 8).den:Int)):Int):Rat).den:Int)+(((((((Rat.divInt 3 8).num)/((Rat.divInt 3 8).den:Int))+1):Int):Rat).den:Int))).den:Int)) 2)))=true by decide +kernel) ?_
 refine Run.cO 10 softRat (fun _ _ _ H=>qSub (Rat.divInt 3 8) (((((Rat.divInt 3 8).num)/((Rat.divInt 3 8).den:Int)):Int):Rat) (RatP.blk (H.oz 10)) (anyV (H.f 0)) (anyV (H.o 3)) (by decide +kernel)) ?_
 refine Run.cO 11 softRat (fun _ _ _ H=>qSub (Rat.divInt (((((((Rat.divInt 3 8).num)/((Rat.divInt 3 8).den:Int)):Int):Rat).num)+(((((((Rat.divInt 3 8).num)/((Rat.divInt 3 8).den:Int))+1):Int):Rat).num)) (((((((Rat.divInt 3 8).num)/((Rat.divInt 3 8).den:Int)):Int):Rat).den:Int)+(((((((Rat.divInt 3 8).num)/((Rat.divInt 3 8).den:Int))+1):Int):Rat).den:Int))) (Rat.divInt 3 8) (RatP.blk (H.oz 11)) (anyV (H.o 7)) (anyV (H.f 0)) (by decide +kernel)) ?_
 refine Run.cV [.int .i64 (icmp (((Rat.divInt 3 8)-(((((Rat.divInt 3 8).num)/((Rat.divInt 3 8).den:Int)):Int):Rat)).num*(((Rat.divInt (((((((Rat.divInt 3 8).num)/((Rat.divInt 3 8).den:Int)):Int):Rat).num)+(((((((Rat.divInt 3 8).num)/((Rat.divInt 3 8).den:Int))+1):Int):Rat).num)) (((((((Rat.divInt 3 8).num)/((Rat.divInt 3 8).den:Int)):Int):Rat).den:Int)+(((((((Rat.divInt 3 8).num)/((Rat.divInt 3 8).den:Int))+1):Int):Rat).den:Int)))-(Rat.divInt 3 8)).den:Int)) (((Rat.divInt (((((((Rat.divInt 3 8).num)/((Rat.divInt 3 8).den:Int)):Int):Rat).num)+(((((((Rat.divInt 3 8).num)/((Rat.divInt 3 8).den:Int))+1):Int):Rat).num)) (((((((Rat.divInt 3 8).num)/((Rat.divInt 3 8).den:Int)):Int):Rat).den:Int)+(((((((Rat.divInt 3 8).num)/((Rat.divInt 3 8).den:Int))+1):Int):Rat).den:Int)))-(Rat.divInt 3 8)).num*(((Rat.divInt 3 8)-(((((Rat.divInt 3 8).num)/((Rat.divInt 3 8).den:Int)):Int):Rat)).den:Int)))] kb (fun _ _ _ H=>qCmp ((Rat.divInt 3 8)-(((((Rat.divInt 3 8).num)/((Rat.divInt 3 8).den:Int)):Int):Rat)) ((Rat.divInt (((((((Rat.divInt 3 8).num)/((Rat.divInt 3 8).den:Int)):Int):Rat).num)+(((((((Rat.divInt 3 8).num)/((Rat.divInt 3 8).den:Int))+1):Int):Rat).num)) (((((((Rat.divInt 3 8).num)/((Rat.divInt 3 8).den:Int)):Int):Rat).den:Int)+(((((((Rat.divInt 3 8).num)/((Rat.divInt 3 8).den:Int))+1):Int):Rat).den:Int)))-(Rat.divInt 3 8)) (anyV (H.o 10)) (anyV (H.o 11)) (by decide +kernel)) ?_
 refine Run.ic (icmp (((Rat.divInt 3 8)-(((((Rat.divInt 3 8).num)/((Rat.divInt 3 8).den:Int)):Int):Rat)).num*(((Rat.divInt (((((((Rat.divInt 3 8).num)/((Rat.divInt 3 8).den:Int)):Int):Rat).num)+(((((((Rat.divInt 3 8).num)/((Rat.divInt 3 8).den:Int))+1):Int):Rat).num)) (((((((Rat.divInt 3 8).num)/((Rat.divInt 3 8).den:Int)):Int):Rat).den:Int)+(((((((Rat.divInt 3 8).num)/((Rat.divInt 3 8).den:Int))+1):Int):Rat).den:Int)))-(Rat.divInt 3 8)).den:Int)) (((Rat.divInt (((((((Rat.divInt 3 8).num)/((Rat.divInt 3 8).den:Int)):Int):Rat).num)+(((((((Rat.divInt 3 8).num)/((Rat.divInt 3 8).den:Int))+1):Int):Rat).num)) (((((((Rat.divInt 3 8).num)/((Rat.divInt 3 8).den:Int)):Int):Rat).den:Int)+(((((((Rat.divInt 3 8).num)/((Rat.divInt 3 8).den:Int))+1):Int):Rat).den:Int)))-(Rat.divInt 3 8)).num*(((Rat.divInt 3 8)-(((((Rat.divInt 3 8).num)/((Rat.divInt 3 8).den:Int)):Int):Rat)).den:Int))) 0 (decide ((icmp (((Rat.divInt 3 8)-(((((Rat.divInt 3 8).num)/((Rat.divInt 3 8).den:Int)):Int):Rat)).num*(((Rat.divInt (((((((Rat.divInt 3 8).num)/((Rat.divInt 3 8).den:Int)):Int):Rat).num)+(((((((Rat.divInt 3 8).num)/((Rat.divInt 3 8).den:Int))+1):Int):Rat).num)) (((((((Rat.divInt 3 8).num)/((Rat.divInt 3 8).den:Int)):Int):Rat).den:Int)+(((((((Rat.divInt 3 8).num)/((Rat.divInt 3 8).den:Int))+1):Int):Rat).den:Int)))-(Rat.divInt 3 8)).den:Int)) (((Rat.divInt (((((((Rat.divInt 3 8).num)/((Rat.divInt 3 8).den:Int)):Int):Rat).num)+(((((((Rat.divInt 3 8).num)/((Rat.divInt 3 8).den:Int))+1):Int):Rat).num)) (((((((Rat.divInt 3 8).num)/((Rat.divInt 3 8).den:Int)):Int):Rat).den:Int)+(((((((Rat.divInt 3 8).num)/((Rat.divInt 3 8).den:Int))+1):Int):Rat).den:Int)))-(Rat.divInt 3 8)).num*(((Rat.divInt 3 8)-(((((Rat.divInt 3 8).num)/((Rat.divInt 3 8).den:Int)):Int):Rat)).den:Int)))<0)) ?_
 refine Run.kn (show (decide ((icmp (((Rat.divInt 3 8)-(((((Rat.divInt 3 8).num)/((Rat.divInt 3 8).den:Int)):Int):Rat)).num*(((Rat.divInt (((((((Rat.divInt 3 8).num)/((Rat.divInt 3 8).den:Int)):Int):Rat).num)+(((((((Rat.divInt 3 8).num)/((Rat.divInt 3 8).den:Int))+1):Int):Rat).num)) (((((((Rat.divInt 3 8).num)/((Rat.divInt 3 8).den:Int)):Int):Rat).den:Int)+(((((((Rat.divInt 3 8).num)/((Rat.divInt 3 8).den:Int))+1):Int):Rat).den:Int)))-(Rat.divInt 3 8)).den:Int)) (((Rat.divInt (((((((Rat.divInt 3 8).num)/((Rat.divInt 3 8).den:Int)):Int):Rat).num)+(((((((Rat.divInt 3 8).num)/((Rat.divInt 3 8).den:Int))+1):Int):Rat).num)) (((((((Rat.divInt 3 8).num)/((Rat.divInt 3 8).den:Int)):Int):Rat).den:Int)+(((((((Rat.divInt 3 8).num)/((Rat.divInt 3 8).den:Int))+1):Int):Rat).den:Int)))-(Rat.divInt 3 8)).num*(((Rat.divInt 3 8)-(((((Rat.divInt 3 8).num)/((Rat.divInt 3 8).den:Int)):Int):Rat)).den:Int)))<0))=false by decide +kernel) ?_
 refine Run.ic (icmp (((Rat.divInt 3 8)-(((((Rat.divInt 3 8).num)/((Rat.divInt 3 8).den:Int)):Int):Rat)).num*(((Rat.divInt (((((((Rat.divInt 3 8).num)/((Rat.divInt 3 8).den:Int)):Int):Rat).num)+(((((((Rat.divInt 3 8).num)/((Rat.divInt 3 8).den:Int))+1):Int):Rat).num)) (((((((Rat.divInt 3 8).num)/((Rat.divInt 3 8).den:Int)):Int):Rat).den:Int)+(((((((Rat.divInt 3 8).num)/((Rat.divInt 3 8).den:Int))+1):Int):Rat).den:Int)))-(Rat.divInt 3 8)).den:Int)) (((Rat.divInt (((((((Rat.divInt 3 8).num)/((Rat.divInt 3 8).den:Int)):Int):Rat).num)+(((((((Rat.divInt 3 8).num)/((Rat.divInt 3 8).den:Int))+1):Int):Rat).num)) (((((((Rat.divInt 3 8).num)/((Rat.divInt 3 8).den:Int)):Int):Rat).den:Int)+(((((((Rat.divInt 3 8).num)/((Rat.divInt 3 8).den:Int))+1):Int):Rat).den:Int)))-(Rat.divInt 3 8)).num*(((Rat.divInt 3 8)-(((((Rat.divInt 3 8).num)/((Rat.divInt 3 8).den:Int)):Int):Rat)).den:Int))) 0 (decide (0<(icmp (((Rat.divInt 3 8)-(((((Rat.divInt 3 8).num)/((Rat.divInt 3 8).den:Int)):Int):Rat)).num*(((Rat.divInt (((((((Rat.divInt 3 8).num)/((Rat.divInt 3 8).den:Int)):Int):Rat).num)+(((((((Rat.divInt 3 8).num)/((Rat.divInt 3 8).den:Int))+1):Int):Rat).num)) (((((((Rat.divInt 3 8).num)/((Rat.divInt 3 8).den:Int)):Int):Rat).den:Int)+(((((((Rat.divInt 3 8).num)/((Rat.divInt 3 8).den:Int))+1):Int):Rat).den:Int)))-(Rat.divInt 3 8)).den:Int)) (((Rat.divInt (((((((Rat.divInt 3 8).num)/((Rat.divInt 3 8).den:Int)):Int):Rat).num)+(((((((Rat.divInt 3 8).num)/((Rat.divInt 3 8).den:Int))+1):Int):Rat).num)) (((((((Rat.divInt 3 8).num)/((Rat.divInt 3 8).den:Int)):Int):Rat).den:Int)+(((((((Rat.divInt 3 8).num)/((Rat.divInt 3 8).den:Int))+1):Int):Rat).den:Int)))-(Rat.divInt 3 8)).num*(((Rat.divInt 3 8)-(((((Rat.divInt 3 8).num)/((Rat.divInt 3 8).den:Int)):Int):Rat)).den:Int))))) ?_
 refine Run.kn (show (decide (0<(icmp (((Rat.divInt 3 8)-(((((Rat.divInt 3 8).num)/((Rat.divInt 3 8).den:Int)):Int):Rat)).num*(((Rat.divInt (((((((Rat.divInt 3 8).num)/((Rat.divInt 3 8).den:Int)):Int):Rat).num)+(((((((Rat.divInt 3 8).num)/((Rat.divInt 3 8).den:Int))+1):Int):Rat).num)) (((((((Rat.divInt 3 8).num)/((Rat.divInt 3 8).den:Int)):Int):Rat).den:Int)+(((((((Rat.divInt 3 8).num)/((Rat.divInt 3 8).den:Int))+1):Int):Rat).den:Int)))-(Rat.divInt 3 8)).den:Int)) (((Rat.divInt (((((((Rat.divInt 3 8).num)/((Rat.divInt 3 8).den:Int)):Int):Rat).num)+(((((((Rat.divInt 3 8).num)/((Rat.divInt 3 8).den:Int))+1):Int):Rat).num)) (((((((Rat.divInt 3 8).num)/((Rat.divInt 3 8).den:Int)):Int):Rat).den:Int)+(((((((Rat.divInt 3 8).num)/((Rat.divInt 3 8).den:Int))+1):Int):Rat).den:Int)))-(Rat.divInt 3 8)).num*(((Rat.divInt 3 8)-(((((Rat.divInt 3 8).num)/((Rat.divInt 3 8).den:Int)):Int):Rat)).den:Int)))))=true by decide +kernel) ?_
 refine Run.cV ((rfC (fcut (Rat.divInt (((((((Rat.divInt 3 8).num)/((Rat.divInt 3 8).den:Int)):Int):Rat).num)+(((((((Rat.divInt 3 8).num)/((Rat.divInt 3 8).den:Int))+1):Int):Rat).num)) (((((((Rat.divInt 3 8).num)/((Rat.divInt 3 8).den:Int)):Int):Rat).den:Int)+(((((((Rat.divInt 3 8).num)/((Rat.divInt 3 8).den:Int))+1):Int):Rat).den:Int))))).toList++[.int .i64 (ferr (Rat.divInt (((((((Rat.divInt 3 8).num)/((Rat.divInt 3 8).den:Int)):Int):Rat).num)+(((((((Rat.divInt 3 8).num)/((Rat.divInt 3 8).den:Int))+1):Int):Rat).num)) (((((((Rat.divInt 3 8).num)/((Rat.divInt 3 8).den:Int)):Int):Rat).den:Int)+(((((((Rat.divInt 3 8).num)/((Rat.divInt 3 8).den:Int))+1):Int):Rat).den:Int))))]) (.tup [.agg (ks 0 4),.o (.k 4)]) (fun _ _ _ H=>eFrac (Rat.divInt (((((((Rat.divInt 3 8).num)/((Rat.divInt 3 8).den:Int)):Int):Rat).num)+(((((((Rat.divInt 3 8).num)/((Rat.divInt 3 8).den:Int))+1):Int):Rat).num)) (((((((Rat.divInt 3 8).num)/((Rat.divInt 3 8).den:Int)):Int):Rat).den:Int)+(((((((Rat.divInt 3 8).num)/((Rat.divInt 3 8).den:Int))+1):Int):Rat).den:Int))) (RatP.n (H.s 7)) (by decide +kernel)) ?_
 exact Run.rV ((cut_eq (q:=Rat.divInt (((((((Rat.divInt 3 8).num)/((Rat.divInt 3 8).den:Int)):Int):Rat).num)+(((((((Rat.divInt 3 8).num)/((Rat.divInt 3 8).den:Int))+1):Int):Rat).num)) (((((((Rat.divInt 3 8).num)/((Rat.divInt 3 8).den:Int)):Int):Rat).den:Int)+(((((((Rat.divInt 3 8).num)/((Rat.divInt 3 8).den:Int))+1):Int):Rat).den:Int))) (by decide +kernel)))
theorem fits12:fits (rf (Rat.divInt 1 2))=true:=fits_ht (by decide +kernel)
theorem fits23:fits (rf (Rat.divInt 2 3))=true:=fits_ht (by decide +kernel)
theorem wkNr(x y:Rat)(p0:x=Rat.divInt 1 2)(p1:y=Rat.divInt 2 3):Calls Tryz.prog 45 #[fV x,fV y] W (RetV (.tuple #[.bool true,.int .i64 0]) W):=by
 subst p0;subst p1
 refine reV ?_ (foNrY _ _ fits12 fits23)
 rw [show fnbr (Rat.divInt 1 2) (Rat.divInt 2 3)=true by decide +kernel]
theorem wkBt(x y:Rat)(p0:x=Rat.divInt 1 2)(p1:y=Rat.divInt 2 3):Calls Tryz.prog 46 #[fV x,fV y] W (RetV (.tuple #[fV (Rat.divInt 3 5),.int .i64 0]) W):=by
 subst p0;subst p1
 exact reV (cut_yes (by decide +kernel) (by decide +kernel)) (foBtY _ _ fits12 fits23)
theorem wk_bes:besS 1 2=1:=by
 rw [bes_0 (by decide)]
 exact (minv_of (x:=1) (g:=-1) (n:=2) (by decide) (by decide)).symm
theorem wk_nx:fnxt (Rat.divInt 1 2).num ((Rat.divInt 1 2).den:Int) 4=Rat.divInt 2 3:=by
 have h1:(Rat.divInt 1 2).num=1:=by decide +kernel
 have h2:((Rat.divInt 1 2).den:Int)=2:=by decide +kernel
 rw [h1,h2]
 have h3:besR 1 2=1:=by unfold besR;rw [wk_bes];decide
 show Rat.divInt (besR 1 2+(4-besS 1 2)/2*1) (besS 1 2+(4-besS 1 2)/2*2)=_
 rw [h3,wk_bes];decide +kernel
theorem wkNx(x:Rat)(p0:x=Rat.divInt 1 2):Calls Tryz.prog 76 #[fV x,.int .i64 4] W (RetV (.tuple #[fV (Rat.divInt 2 3),.int .i64 0]) W):=by
 subst p0
 exact reV (cut_yes wk_nx (by decide +kernel)) (foNxY _ 4 fits12 (by decide) (by decide) (by decide +kernel))
theorem wkBs(x:Rat)(p0:x=Rat.divInt 3 8):Calls Tryz.prog 78 #[fV x,.int .i64 2] W (RetV (.tuple #[fV (Rat.divInt 1 2),.int .i64 0]) W):=by
 subst p0
 exact reV (cut_yes rfl (by decide +kernel)) foBestW
theorem wkUn(d:Ci)(p0:d=Ci.fo 1 0):Calls Tryz.prog 44 #[ciV d] W (RetV (.tuple #[rfV rz.re,.int .i64 7]) W):=by
 subst p0
 have h:decide ((Ci.fo 1 0).a.num.sign≤0)=true:=by decide +kernel
 refine reV ?_ (foUnT _ (dsOk_yes top_fits (by rw [fo_dot];decide +kernel)))
 exact (un_1 h).symm
theorem l23works  : Calls Tryz.prog 42 #[] W (RetV (.bool true) W):=by
 refine Run.goP (S:=Z0) Pack.nil Tryz.func42 rfl ?_
 refine Run.cV (fC (Rat.divInt 1 2)).toList (.s (.agg (ks 0 4))) (fun _ _ _ H=>l23of 1 2 (by decide) (by decide) (by decide) (by decide) (by decide)) ?_
 refine Run.cV (fC (Rat.divInt 2 3)).toList (.s (.agg (ks 0 4))) (fun _ _ _ H=>l23of 2 3 (by decide) (by decide) (by decide) (by decide) (by decide)) ?_
 refine Run.cV [] (.tup [.o (.c (.bool true)),.o (.c (.int .i64 0))]) (fun _ _ _ H=>wkNr (Rat.divInt 1 2) (Rat.divInt 2 3) (by first|decide|rfl) (by first|decide|rfl)) ?_
 refine Run.cV (fC (Rat.divInt 1 2)).toList (.s (.agg (ks 0 4))) (fun _ _ _ H=>l23of 1 2 (by decide) (by decide) (by decide) (by decide) (by decide)) ?_
 refine Run.cV (fC (Rat.divInt 2 3)).toList (.s (.agg (ks 0 4))) (fun _ _ _ H=>l23of 2 3 (by decide) (by decide) (by decide) (by decide) (by decide)) ?_
 refine Run.cV (fC (Rat.divInt 3 5)).toList (.tup [.agg (ks 0 4),.o (.c (.int .i64 0))]) (fun _ _ _ H=>wkBt (Rat.divInt 1 2) (Rat.divInt 2 3) (by first|decide|rfl) (by first|decide|rfl)) ?_
 refine Run.cV (fC (Rat.divInt 1 2)).toList (.s (.agg (ks 0 4))) (fun _ _ _ H=>l23of 1 2 (by decide) (by decide) (by decide) (by decide) (by decide)) ?_
 refine Run.cV (fC (Rat.divInt 2 3)).toList (.tup [.agg (ks 0 4),.o (.c (.int .i64 0))]) (fun _ _ _ H=>wkNx (Rat.divInt 1 2) (by first|decide|rfl)) ?_
 refine Run.cV (fC (Rat.divInt 3 8)).toList (.s (.agg (ks 0 4))) (fun _ _ _ H=>l23of 3 8 (by decide) (by decide) (by decide) (by decide) (by decide)) ?_
 refine Run.cV (fC (Rat.divInt 1 2)).toList (.tup [.agg (ks 0 4),.o (.c (.int .i64 0))]) (fun _ _ _ H=>wkBs (Rat.divInt 3 8) (by first|decide|rfl)) ?_
 refine Run.cV (ciC (Ci.fo 1 0)).toList (.s (.agg (ks 0 16))) (fun _ _ _ H=>foTop) ?_
 refine Run.cV (rfC rz.re).toList (.tup [.agg (ks 0 4),.o (.c (.int .i64 7))]) (fun _ _ _ H=>wkUn (Ci.fo 1 0) (by first|decide|rfl)) ?_
 refine Run.dr ?_
 refine RunD.cV [] (.s (.o (.c (.int .i64 0)))) (fun _ _ _ H=>l23num 0) ?_
 refine RunD.cV (fC (Rat.divInt 3 5)).toList (.s (.agg (ks 0 4))) (fun _ _ _ H=>l23of 3 5 (by decide) (by decide) (by decide) (by decide) (by decide)) ?_
 refine RunD.bi [] (cb true) (fun _ _ _ o1 o2 _ ho hx hy=>ex_eql_frac (r:=(rf (Rat.divInt 3 5))) (q:=(rf (Rat.divInt 3 5))) o1 o2 ho hx hy ((rf_dec (Rat.divInt 3 5) (Rat.divInt 3 5)).trans (decide_eq_true rfl))) ?_
 refine RunD.cV [] (.s (.o (.c (.int .i64 0)))) (fun _ _ _ H=>l23num 0) ?_
 refine RunD.cV (fC (Rat.divInt 2 3)).toList (.s (.agg (ks 0 4))) (fun _ _ _ H=>l23of 2 3 (by decide) (by decide) (by decide) (by decide) (by decide)) ?_
 refine RunD.bi [] (cb true) (fun _ _ _ o1 o2 _ ho hx hy=>ex_eql_frac (r:=(rf (Rat.divInt 2 3))) (q:=(rf (Rat.divInt 2 3))) o1 o2 ho hx hy ((rf_dec (Rat.divInt 2 3) (Rat.divInt 2 3)).trans (decide_eq_true rfl))) ?_
 refine RunD.cV [] (.s (.o (.c (.int .i64 0)))) (fun _ _ _ H=>l23num 0) ?_
 refine RunD.cV (fC (Rat.divInt 1 2)).toList (.s (.agg (ks 0 4))) (fun _ _ _ H=>l23of 1 2 (by decide) (by decide) (by decide) (by decide) (by decide)) ?_
 refine RunD.bi [] (cb true) (fun _ _ _ o1 o2 _ ho hx hy=>ex_eql_frac (r:=(rf (Rat.divInt 1 2))) (q:=(rf (Rat.divInt 1 2))) o1 o2 ho hx hy ((rf_dec (Rat.divInt 1 2) (Rat.divInt 1 2)).trans (decide_eq_true rfl))) ?_
 refine RunD.cV [] (.s (.o (.c (.int .i64 0)))) (fun _ _ _ H=>l23num 0) ?_
 refine RunD.bi [] (cb true) (fun _ _ _ o1 o2 _ ho hx hy=>ex_eql_frac (r:=rz.re) (q:=rz.re) o1 o2 ho hx hy (decide_eq_true rfl)) ?_
 refine RunD.cV [] (.s (.o (.c (.int .i64 7)))) (fun _ _ _ H=>l23num 7) ?_
 refine RunD.cV (ciC (Ci.fo 1 0)).toList (.s (.agg (ks 0 16))) (fun _ _ _ H=>foTop) ?_
 refine RunD.cV (ciC (Ci.fo 1 0)).toList (.s (.agg (ks 0 16))) (fun _ _ _ H=>rfTop) ?_
 refine RunD.bi [] (cb true) (fun _ _ _ o1 o2 _ ho hx hy=>ex_eql_dk (r:=(rci (Ci.fo 1 0))) (q:=(rci (Ci.fo 1 0))) o1 o2 ho hx hy ((rci_dec (Ci.fo 1 0) (Ci.fo 1 0)).trans (decide_eq_true rfl))) ?_
 refine RunD.en ?_
 exact Run.rV rfl
end Go.Proofs.YtcdbmjnipaochaaGreat
namespace Go.Proofs.YtcdbmjnipaochaaGreat.Eng
open Go.RowKit Rgn
abbrev mkL(N:Nat)(C:Array Value):At:=.c (.tuple #[.slice none N 0,.agg C])
section
variable {P:Program} {A S:Nat→Prop} {W:World} {κ κs:List Value} {Φ:List VP} {Q:Exit→Act→World→Prop} {m:MS}
def lsLen:SV→Option Nat
 | .s (.o (.ls _ n _))=>some n
 | _=>none
theorem lsLen_ex{v:SV}{n:Nat}(h:lsLen v=some n):∃ b c,v=.s (.o (.ls b n c)):=by
 unfold lsLen at h
 split at h
 ·cases h;exact⟨_,_,rfl⟩
 ·cases h
theorem Run.ln(n:Nat)(t:TypeId)(rest:Run P S W (κ++[.int .i64 (n:Nat)]) (Φ++[]) Q (aft (runM P far m) kb 1 0))(hu:(sliceE P t).isSome=true:=by kernel_rfl)(ha:((opOf (runM P far m)).bind (lenOf (runM P far m).fr)).map (fun q=>(q.1,lsLen q.2))=some (t,some n):=by kernel_rfl)(hf:fitB (runM P far m) κ Φ=true:=by kernel_rfl):Run P S W κ Φ Q m:=by
 refine Run.va (V:=.int .i64 (n:Nat)) [.int .i64 (n:Nat)] kb (a:=fun o β ℓ ρ=>∃ x ad c,o.op=.call ⟨.builtin .len,⟨[x]⟩,⟨[t]⟩⟩∧ρ x=.slice ad n c) (fun {A} β ℓ w o ρ I hp=>?_) rest (fun β ℓ a A=>?_) (fun _ _=>rfl) rfl hf rfl
 ·obtain⟨x,ad,c,ho,hx⟩:=hp
  exact x_lens hx ho hu
 ·cases ho:opOf (runM P far m) with
  | none=>rw [ho] at ha;cases ha
  | some o =>
   rw [ho] at ha
   refine⟨o,rfl,?_⟩
   have ha:(lenOf (runM P far m).fr o).map _=some _:=ha
   unfold lenOf at ha
   split at ha
   ·rename_i x t0 hop
    cases hx:eoF (runM P far m).fr x with
    | none=>rw [hx] at ha;cases ha
    | some v =>
     rw [hx] at ha
     simp only [Option.map_some,Option.some.injEq,Prod.mk.injEq] at ha
     obtain⟨rfl,e⟩:=ha
     obtain⟨b,c,rfl⟩:=lsLen_ex e
     exact⟨x,_,c,hop,eval_eo A x _ hx⟩
   ·cases ha
theorem Run.lz(t:TypeId)(rest:Run P S W (κ++[]) (Φ++[]) Q (aft (runM P far m) (.s (.o (.c (.int .i64 0)))) 0 0))(hu:(sliceE P t).isSome=true:=by kernel_rfl)(ha:((opOf (runM P far m)).bind (lenOf (runM P far m).fr)).map (fun q=>(q.1,q.2))=some (t,.s (.o (.c (.slice none 0 0)))):=by kernel_rfl)(hf:fitB (runM P far m) κ Φ=true:=by kernel_rfl):Run P S W κ Φ Q m:=by
 refine Run.va (V:=.int .i64 0) [] (.s (.o (.c (.int .i64 0)))) (a:=fun o β ℓ ρ=>∃ x,o.op=.call ⟨.builtin .len,⟨[x]⟩,⟨[t]⟩⟩∧ρ x=.slice none 0 0) (fun {A} β ℓ w o ρ I hp=>?_) rest (fun β ℓ a A=>?_) (fun _ _=>rfl) rfl hf rfl
 ·obtain⟨x,ho,hx⟩:=hp
  exact x_lens hx ho hu
 ·cases ho:opOf (runM P far m) with
  | none=>rw [ho] at ha;cases ha
  | some o =>
   rw [ho] at ha
   refine⟨o,rfl,?_⟩
   have ha:(lenOf (runM P far m).fr o).map _=some _:=ha
   unfold lenOf at ha
   split at ha
   ·rename_i x t0 hop
    cases hx:eoF (runM P far m).fr x with
    | none=>rw [hx] at ha;cases ha
    | some v =>
     rw [hx] at ha
     simp only [Option.map_some,Option.some.injEq,Prod.mk.injEq] at ha
     obtain⟨rfl,rfl⟩:=ha
     exact⟨x,hop,eval_eo A x _ hx⟩
   ·cases ha
def ldV(P:Program)(T:TypeId)(es:List Value):Value:=if aggB P T then .agg ⟨es⟩ else kat es 0
def ldB(P:Program)(T:TypeId)(sz:Nat):Bool:=match szOf P T with
 | some n=>Nat.beq n sz&&(aggB P T||(Nat.beq sz 1&&cellB P T))
 | none=>false
theorem take_ge{α:Type}{l:List α}{i k:Nat}(h:((l.drop i).take k).length=k)(hk:0<k):i+k≤l.length:=by
 rw [List.length_take,List.length_drop] at h;omega
def runL(P:Program)(n:Nat):MS→MS:=Nat.rec (fun m=>m) (fun _ ih m=>match m.cur with|.code (.loop _)=>m|_=>match stepM P m with|some m' => ih m'|none=>m) n
theorem runL_sound:∀ (n:Nat) {m:MS},Run P S W κ Φ Q (runL P n m)→Run P S W κ Φ Q m
 | 0,m,R=>R
 | n+1,m,R=>by
  have R:Run P S W κ Φ Q (match m.cur with|.code (.loop _)=>m|_=>match stepM P m with|some m' => runL P n m'|none=>m):=R
  split at R
  ·exact R
  ·split at R
   ·rename_i m' hm;exact step_sound hm (runL_sound n R)
   ·exact R
def inL(r:Nat)(m:MS):MS:=match m.cur with|.code (.loop b)=>{ m with cur:=.code b,ks:=.kl b r::m.ks }|_=>m
theorem Run.tl(r:Nat)(R:Run P S W κ Φ Q (inL r (runL P far m))):Run P S W κ Φ Q m:=by
 refine runL_sound far ?_
 generalize runL P far m=q at R
 unfold inL at R
 split at R
 ·rename_i b hc;exact Run.lp b r R hc
 ·exact R
theorem Inv.setC{E:Env}{w:World}{bl:List Blk}{sf:List Nat}{b:Nat}{k:Blk}{cs:List At}(I:Inv A S W κ Φ E bl sf w)(hk:nth bl b=some k)(hf:k.fact=none)(hB:HC E cs k.ty w.heap[E.β b]?):Inv A S W κ Φ E (setL bl b ⟨k.ty,cs,k.own,none,k.soft⟩) sf w:=by
 have at_:∀ {c:Nat} {l:Blk},nth (setL bl b ⟨k.ty,cs,k.own,none,k.soft⟩) c=some l→∃ l', nth bl c=some l'∧l'.own=l.own∧l'.soft=l.soft∧l'.ty=l.ty∧l'.fact=l.fact:=fun {c l} h=>by
  rcases nth_setL h with⟨rfl,rfl,_⟩|⟨hcb,h⟩
  ·exact⟨k,hk,rfl,rfl,rfl,hf⟩
  ·exact⟨l,h,rfl,rfl,rfl,rfl⟩
 refine⟨I.ek,I.bel,?_,?_,?_,?_,?_,I.ol,I.ok,I.fac,I.up,?_,?_,?_⟩
 ·intro c l h
  obtain⟨l', h1,_⟩:=at_ h
  exact I.lt c l' h1
 ·intro c l h hf'
  rcases nth_setL h with⟨rfl,rfl,_⟩|⟨hcb,h⟩
  ·exact hB
  ·exact I.blk c l h hf'
 ·intro c l h ho
  obtain⟨l', h1,h2,_⟩:=at_ h
  exact I.own c l' h1 (h2.trans ho)
 ·intro c l h ho
  obtain⟨l', h1,h2,_⟩:=at_ h
  exact I.old c l' h1 (h2.trans ho)
 ·intro c d l l2 h g ho1 ho2 hn
  obtain⟨l', h1,h2,_⟩:=at_ h
  obtain⟨l2', g1,g2,_⟩:=at_ g
  exact I.inj c d l' l2' h1 g1 (h2.trans ho1) (g2.trans ho2) hn
 ·intro c l h ho hs
  obtain⟨l', h1,h2,h3,_⟩:=at_ h
  exact I.se c l' h1 (h2.trans ho) (h3.trans hs)
 ·intro c l h hs
  obtain⟨l', h1,h2,h3,_⟩:=at_ h
  obtain⟨q1,q2⟩:=I.so c l' h1 (h3.trans hs)
  exact⟨h2.symm.trans q1,q2⟩
 ·intro c l n h hfn
  obtain⟨l', h1,h2,h3,_,h5⟩:=at_ h
  obtain⟨q1,q2⟩:=I.sof c l' n h1 (h5.trans hfn)
  exact⟨h2.symm.trans q1,q2⟩
def At.toLs(b:Nat):At→At
 | .sl b' 0 n q=>if Nat.beq b' b then .ls b n q else .sl b' 0 n q
 | a=>a
def SV.toLs(b:Nat):SV→SV
 | .s (.o a)=>.s (.o (a.toLs b))
 | v=>v
theorem At.toLs_d{E:Env}{b:Nat}(a:At):(a.toLs b).d E=a.d E:=by
 unfold At.toLs
 split
 ·split
  ·rename_i h;have h:=Nat.eq_of_beq_eq_true h;subst h;rfl
  ·rfl
 ·rfl
theorem SV.toLs_d{E:Env}{b:Nat}(a:SV):(a.toLs b).d E=a.d E:=by
 unfold SV.toLs
 split
 ·exact At.toLs_d _
 ·rfl
def hideM(b N:Nat)(C:Array Value)(m:MS):MS:={ m with fr:=m.fr.map (Option.map (SV.toLs b)),bl:=match nth m.bl b with|some k=>setL m.bl b ⟨k.ty,[mkL N C],k.own,none,k.soft⟩|none=>m.bl }
theorem Run.hln(f b N:Nat)(C:Array Value)(R:Run P S W κ Φ Q (hideM b N C (runM P f m)))(hb:(nthB (runM P f m).bl b).map (fun k=>(headT k.cells,sizeT k.cells))=some (true,some N):=by kernel_rfl)(hC:∀ β ℓ,(cellsOf (runM P f m) b).map (At.d ⟨β,κ,ℓ⟩)=C.toList:=by intro β ℓ;kernel_rfl):Run P S W κ Φ Q m :=
 run_sound f <| Run.mk fun A0 E a w I G=>by
  obtain⟨β,κ', ℓ⟩:=E
  have e:=I.ek
  simp only at e
  subst e
  generalize hm:runM P f m=q at *
  have hC:=hC β ℓ
  cases hk:nthB q.bl b with
  | none=>rw [hk] at hb;cases hb
  | some k =>
   rw [hk] at hb
   simp only [Option.map_some,Option.some.injEq,Prod.mk.injEq] at hb
   obtain⟨h3,h4⟩:=nthB_ex hk
   have hc1:cellsOf q b=bodyC k.cells:=by unfold cellsOf;rw [h3]
   rw [hc1] at hC
   obtain⟨r,hB,_,hN,_⟩:=I.blk b k h3 h4
   have I2:=I.setC (cs:=[mkL N C]) h3 h4 ⟨C.toList++r,by
    show w.heap[β b]? = some (.cells ⟨[]++(C.toList++r)⟩ k.ty (0,0))
    rw [hB,hC];rfl,fun h=>(by cases h),fun N' hN' => by
    have hN' : N=N' := Option.some.inj hN'
    have:=hN N hb.2
    show 0+(C.toList++r).length=N'
    rw [List.length_append,← hC,List.length_map];omega,fun C' hC' => by
    have hC' : C=C' := Option.some.inj hC'
    subst hC';exact⟨r,rfl⟩⟩
   have hq:hideM b N C q={ q with fr:=q.fr.map (Option.map (SV.toLs b)),bl:=setL q.bl b ⟨k.ty,[mkL N C],k.own,none,k.soft⟩ }:=by unfold hideM;rw [h3]
   rw [hq] at R
   refine R.r A0 _ a w I2 ⟨G.nd,by rw [G.sz];simp,fun i v hv=>?_⟩
   have hv:nth (q.fr.map (Option.map (SV.toLs b))) i=some (some v):=hv
   rw [nth_map] at hv
   cases h0:nth q.fr i with
   | none=>rw [h0] at hv;cases hv
   | some u =>
    cases u with
    | none=>rw [h0] at hv;cases hv
    | some u=>rw [h0] at hv;cases hv;rw [G.at_ i u h0,SV.toLs_d]
theorem Run.hl(b N:Nat)(C:Array Value)(R:Run P S W κ Φ Q (hideM b N C (runM P far m)))(hb:(nthB (runM P far m).bl b).map (fun k=>(headT k.cells,sizeT k.cells))=some (true,some N):=by kernel_rfl)(hC:∀ β ℓ,(cellsOf (runM P far m) b).map (At.d ⟨β,κ,ℓ⟩)=C.toList:=by intro β ℓ;kernel_rfl):Run P S W κ Φ Q m:=Run.hln far b N C R hb hC
def alOk(P:Program)(TS:TypeId)(b b2:Nat)(m:MS):Bool :=
 match nth m.bl b with
 | some k=>newB P TS k.ty b2 m&&k.own&&k.fact.isNone && !Nat.beq b2 b&&Nat.beq k.cells.length 1&&othB m b
 | none=>false
def aftL(P:Program)(b n b2 c:Nat)(C:Array Value)(m:MS):MS :=
 match m.cur with
 | .ops all (o::rest)=>{ m with cur:=.ops all rest,fr:=putF (dropB b m.fr) o.dst (some (.s (.o (.ls b (n+1) (c+(n+1)))))),bl:=setL m.bl b ⟨tyOf m b,[mkL ((c+(n+1))*szX P (tyOf m b)) C],true,none,false⟩ }
 | _=>m
theorem Run.al(TS:TypeId)(b n cap b2:Nat)(C C': Array Value)(xs:List Value)(sz:Nat)(hn:n≤100000)(hCs:C.size=n*sz)(hC': C++xs.toArray=C')(rest:∀ c,Run P S W κ Φ Q (aftL P b n b2 c C' (runM P far m)))(ha:apOf (runM P far m)=some (TS,.s (.o (.ls b n (cap+n))),.s (.o (.sl b2 0 1 1))):=by kernel_rfl)(hm:(nth (runM P far m).bl b).map (fun k=>(sizeT k.cells,contT k.cells))=some (some ((cap+n)*szX P (tyOf (runM P far m) b)),some C):=by kernel_rfl)(hz:szX P (tyOf (runM P far m) b)=sz:=by kernel_rfl)(hxs:∀ β ℓ,(cellsOf (runM P far m) b2).map (At.d ⟨β,κ,ℓ⟩)=xs:=by intro β ℓ;kernel_rfl)(hok:alOk P TS b b2 (runM P far m)=true:=by kernel_rfl)(hf:fitB (runM P far m) κ Φ=true:=by kernel_rfl):Run P S W κ Φ Q m :=
 run_sound far <| Run.mk fun A0 E a w I G=>by
  obtain⟨β,κ', ℓ⟩:=E
  have e:=I.ek
  simp only at e
  subst e
  subst hC'
  rw [← hz] at hCs
  generalize hm' : runM P far m=q at *
  have hxs:=hxs β ℓ
  obtain⟨o,all,rst,s,x,hcur,hg,hop,hs,hx⟩:=ap_enter ha G
  unfold alOk at hok
  split at hok
  ·rename_i k hk
   simp only [Bool.and_eq_true,Bool.not_eq_true'] at hok
   obtain⟨⟨⟨⟨⟨hnew,g1⟩,g2⟩,g4⟩,g7⟩,g9⟩:=hok
   unfold newB at hnew
   split at hnew
   ·rename_i k2 hk2
    simp only [Bool.and_eq_true,Bool.not_eq_true'] at hnew
    obtain⟨⟨⟨⟨⟨d1,d2⟩,d3⟩,d4⟩,d5⟩,d6⟩:=hnew
    obtain⟨i,z,t1,t2,t3,t4,t5,t6,t7⟩:=elB_ex d1
    have d2:k2.fact=none:=by cases h:k2.fact with|none=>rfl|some _=>rw [h] at d2;cases d2
    have g2:k.fact=none:=by cases h:k.fact with|none=>rfl|some _=>rw [h] at g2;cases g2
    have d4:=Nat.eq_of_beq_eq_true d4
    have g7:=Nat.eq_of_beq_eq_true g7
    have hone:=(I.sees G).all d5
    have hc2:cellsOf q b2=k2.cells:=by unfold cellsOf;rw [hk2];exact bodyC_no d3
    rw [hc2] at hxs
    have hty:tyOf q b=k.ty:=by unfold tyOf;rw [hk]
    rw [hk,hty] at hm
    rw [hty] at hCs
    simp only [Option.map_some,Option.some.injEq,Prod.mk.injEq] at hm
    obtain⟨r,hB,_,hN,hct⟩:=I.blk b k hk g2
    have hN:=hN _ hm.1
    obtain⟨r', rfl⟩:=hct C hm.2
    have hbody:bodyC k.cells=[]:=by
     cases hc:k.cells with
     | nil=>rfl
     | cons y l =>
      have h5:=hm.2
      rw [hc] at h5 g7
      have h5:ctA y=some C:=h5
      have:l=[]:=by simpa using g7
      show (if isT y then l else y::l)=[]
      rw [if_pos (ctA_T h5),this]
    rw [hbody] at hN
    rw [hbody,List.map_nil,List.nil_append] at hB
    have hcs:(⟨C.toList++r'⟩:Array Value).size=(cap+n)*i.size:=by
     rw [t7,← hN];simp
    obtain⟨g', c,cur', w', hr,w1,w2,w3,w4,w5,w6,w7,w8,w9⟩:=ap_own (P:=P) (w:=w) (ty:=o.type) t1 t2 t3 rfl rfl t4 t5 t6 ⟨β b2,0,none⟩ 1 (k2.cells.map (At.d ⟨β,κ', ℓ⟩)) (by rw [List.length_map];omega) (news_at I hk2 d2 d3) hone hB hcs hn
    rw [den_op hcur]
    refine wpList_step fun K hK=>?_
    rw [if_pos hg]
    simp only [Oper.wp,ex_append hop hs hx hr,Oper.upon]
    have hR:=rest c
    have hq:aftL P b n b2 c (C++xs.toArray) q={ q with cur:=.ops all rst,fr:=putF (dropB b q.fr) o.dst (some (.s (.o (.ls b (n+1) (c+(n+1)))))),bl:=setL q.bl b ⟨k.ty,[mkL ((c+(n+1))*szX P k.ty) (C++xs.toArray)],true,none,false⟩ }:=by unfold aftL;rw [hcur,hty]
    rw [hq] at hR
    have hothers:∀ c l,nth q.bl c=some l→c≠b→l.cells.all (noB b)=true:=fun c l h hc=>by
     have:=List.all_eq_true.1 g9 c (List.mem_range.2 (nth_lt h))
     rw [h,Bool.or_eq_true] at this
     exact this.resolve_left fun e=>hc (Nat.eq_of_beq_eq_true e)
    have htk:(⟨C.toList++r'⟩:Array Value).toList.take (n*i.size)=C.toList:=by
     rw [t7,← hCs,← Array.length_toList];exact List.take_left
    rw [htk,hxs] at w9
    have I2:=I.reB (g:=g') (cs:=[mkL ((c+(n+1))*szX P k.ty) (C++xs.toArray)]) hk g2 g1 d6 (fun c l h hc=>noB_L (hothers c l h hc)) w1 w2 w3 w4 w5 w6 (lt_of w7) ⟨cur'.toList,w7,fun h=>(by cases h),fun N hN=>by
     have hN:(c+(n+1))*szX P k.ty=N:=Option.some.inj hN
     show 0+cur'.toList.length=N
     rw [Array.length_toList,w8,← hN,t7];omega,fun C' hC' => by
     have hC' : C++xs.toArray=C' := Option.some.inj hC'
     subst hC'
     refine⟨cur'.toList.drop ((n+1)*i.size),?_⟩
     have h6:(C++xs.toArray).toList=cur'.toList.take ((n+1)*i.size):=by rw [w9];simp
     rw [h6,List.take_append_drop]⟩
    have G1:=G.drop (b:=b) (g:=g')
    have G2:=put_v G1 o.dst (.s (.o (.ls b (n+1) (c+(n+1)))))
    have e2:(SV.s (.o (.ls b (n+1) (c+(n+1))))).d (reE ⟨β,κ', ℓ⟩ b g')=.slice (some ⟨g', 0,none⟩) (n+1) (c+(n+1)):=by
     show Value.slice (some ⟨if b=b then g' else _,0,none⟩) (n+1) (c+(n+1))=_
     rw [if_pos rfl]
    rw [e2] at G2
    exact hK _ _ (hR.r _ _ _ w' I2 G2)
   ·cases hnew
  ·cases hok
def RetL(T:TypeId)(sz n:Nat)(C:Array Value)(V:Value→Value)(W:World):Ending→World→Prop:=fun e w =>
 ∃ b cap r,e=.returned (V (.slice (some ⟨b,0,none⟩) n (cap+n)))∧W.heap.size≤b∧w.heap[b]? = some (.cells ⟨C.toList++r⟩ T (0,0))∧C.size+r.length=(cap+n)*sz∧Below W.heap.size W w
def aftCL(T:TypeId)(N:Nat)(C:Array Value)(v:SV)(nk:Nat)(m:MS):MS :=
 match m.cur with
 | .ops all (o::rest)=>{ m with cur:=.ops all rest,fr:=putF m.fr o.dst (some (v.up m.nk m.nv)),bl:=m.bl++[⟨T,[mkL N C],true,none,false⟩],nk:=m.nk+nk }
 | _=>m
theorem Run.cL{f:FuncId}{args:(Nat→Nat)→(Nat→Value)→Array Value}{T:TypeId}{sz n:Nat}{C:Array Value}{V:Value→Value}(κs:List Value)(sh:At→SV)(hc:∀ {A:Nat→Prop} β ℓ w,Inv A S W κ Φ ⟨β,κ,ℓ⟩ (runM P far m).bl (runM P far m).sf w→Calls P f (args β ℓ) w (RetL T sz n C V w))(rest:∀ cap,Run P S W (κ++κs) (Φ++[]) Q (aftCL T ((cap+n)*sz) C (sh (.ls (runM P far m).bl.length n (cap+n))) κs.length (runM P far m)))(ha:∀ β ℓ,argsOf P (runM P far m) ⟨β,κ,ℓ⟩=some (f,(args β ℓ).toList):=by intro β ℓ;kernel_rfl)(hV:∀ cap β ℓ,(sh (.ls (runM P far m).bl.length n (cap+n))).d ⟨β,κs,ℓ⟩=V (.slice (some ⟨β (runM P far m).bl.length,0,none⟩) n (cap+n)):=by intro cap β ℓ;kernel_rfl)(h1:κs.all (·.oneCell')=true:=by kernel_rfl)(hf:fitB (runM P far m) κ Φ=true:=by kernel_rfl):Run P S W κ Φ Q m :=
 run_sound far <| Run.mk fun A0 E a w I G=>by
  obtain⟨β,κ', ℓ⟩:=E
  have e:=I.ek
  simp only at e
  subst e
  generalize hm:runM P far m=q at *
  obtain⟨o,all,rst,hcur,hg,hx⟩:=call_enter (w:=w) (ha β ℓ) G
  rw [den_op hcur]
  refine wpList_step fun K hK=>?_
  rw [if_pos hg]
  simp only [Oper.wp,hx,Oper.upon]
  refine (hc β ℓ w I).mono fun e w' hr=>?_
  obtain⟨b,cap,r,rfl,k1,k2,k3,k5⟩:=hr
  have hR:=rest cap
  have hq:aftCL T ((cap+n)*sz) C (sh (.ls q.bl.length n (cap+n))) κs.length q={ q with cur:=.ops all rst,fr:=putF q.fr o.dst (some ((sh (.ls q.bl.length n (cap+n))).up q.nk q.nv)),bl:=q.bl++[⟨T,[mkL ((cap+n)*sz) C],true,none,false⟩],nk:=q.nk+κs.length }:=by unfold aftCL;rw [hcur]
  rw [hq] at hR
  obtain⟨I1,ac1⟩:=I.more (κs:=κs) (φs:=[]) (xs:=[]) hf k5 (kat_all h1) (fun n=>rfl) (fun n ψ hn=>(by cases n<;>cases hn))
  have hf' := hf
  simp only [fitB,MS.okB,Bool.and_eq_true] at hf'
  obtain⟨⟨⟨f0,f1⟩,f2⟩,f3⟩:=hf'
  have f2:=Nat.eq_of_beq_eq_true f2
  have s1:Same q.bl.length q.nk q.nv ⟨β,κ', ℓ⟩ (Env.more ⟨β,κ', ℓ⟩ κs q.nv []):=more_same (by rw [f2];exact Nat.le_refl _)
  have up1:∀ {x:At},At.okB q.bl.length q.nk q.nv x=true→At.okB q.bl.length (q.nk+κs.length) q.nv x=true:=fun {x} this=>by
   cases x with
   | k i=>have:=blt_lt this;show Nat.blt i _=true;rw [Nat.blt_eq];omega
   | _=>exact this
  have up:∀ {l:List At},l.all (At.okB q.bl.length q.nk q.nv)=true→l.all (At.okB q.bl.length (q.nk+κs.length) q.nv)=true:=fun {l} h=>List.all_eq_true.2 fun x hx=>up1 (List.all_eq_true.1 h x hx)
  obtain⟨I2,s2⟩:=I1.addB (b:=b) (T:=T) (nk:=q.nk+κs.length) (nv:=q.nv) (cs:=[mkL ((cap+n)*sz) C]) rfl (List.all_eq_true.2 fun k hk=>up (List.all_eq_true.1 f1 k hk)) rfl
   (Nat.le_trans I.bel.size k1) (lt_of k2) (.inr k1) (fun c k hk=>Nat.ne_of_lt (Nat.lt_of_lt_of_le (I.lt c k hk) k1)) ⟨C.toList++r,k2,fun h=>(by cases h),fun N hN=>by
    have hN:(cap+n)*sz=N:=Option.some.inj hN
    show 0+(C.toList++r).length=N
    rw [List.length_append,Array.length_toList,← hN,← k3];omega,fun C' hC' => by
    have hC' : C=C' := Option.some.inj hC'
    subst hC';exact⟨r,rfl⟩⟩
  have G1:=ac1 _ G
  have f0' : q.fr.all (okO q.bl.length (q.nk+κs.length) q.nv)=true:=List.all_eq_true.2 fun x hx=>by
   have h0:=List.all_eq_true.1 f0 x hx
   cases x with
   | none=>rfl
   | some v=>cases v with
    | s y=>cases y with
     | o at' => exact up1 h0
     | agg l=>exact up h0
    | tup l =>
     refine List.all_eq_true.2 fun y hy=>?_
     have:=List.all_eq_true.1 h0 y hy
     cases y with
     | o at' => exact up1 this
     | agg l=>exact up this
  have G2:=put_v (G1.same s2 f0') o.dst ((sh (.ls q.bl.length n (cap+n))).up q.nk q.nv)
  have e2:((sh (.ls q.bl.length n (cap+n))).up q.nk q.nv).d ⟨fun c=>if c=q.bl.length then b else (Env.more ⟨β,κ', ℓ⟩ κs q.nv []).β c,(Env.more ⟨β,κ', ℓ⟩ κs q.nv []).κ,(Env.more ⟨β,κ', ℓ⟩ κs q.nv []).ℓ⟩=V (.slice (some ⟨b,0,none⟩) n (cap+n)):=by
   have h:=SV.up_d (E:=⟨fun c=>if c=q.bl.length then b else β c,κ', ℓ⟩) (κs:=κs) (xs:=[]) (nv:=q.nv) (a:=sh (.ls q.bl.length n (cap+n)))
   rw [f2]
   refine h.trans ?_
   rw [hV]
   show V (.slice (some ⟨if q.bl.length=q.bl.length then b else _,0,none⟩) n (cap+n))=_
   rw [if_pos rfl]
  rw [e2] at G2
  exact hK _ _ (hR.r _ _ _ w' I2 G2)
theorem Run.rL{fn:Func}{T:TypeId}{sz n:Nat}{C:Array Value}{V:Value→Value}(b cap:Nat)(v:SV)(hv:finV P fn.results (runM P far m)=some v:=by kernel_rfl)(hV:∀ β ℓ,v.d ⟨β,κ,ℓ⟩=V (.slice (some ⟨β b,0,none⟩) n (cap+n)):=by intro β ℓ;kernel_rfl)(hb:(nthB (runM P far m).bl b).map (fun k=>(k.ty,k.own,k.cells.length,sizeT k.cells,contT k.cells))=some (T,true,1,some ((cap+n)*sz),some C):=by kernel_rfl):Run P S W κ Φ (bodyPost P fn (RetL T sz n C V W)) m:=by
 refine Run.fin (v:=fun β ℓ=>V (.slice (some ⟨β b,0,none⟩) n (cap+n))) (fun β ℓ w I=>?_) (fun β ℓ=>by rw [hv,← hV β ℓ];rfl)
 cases hk:nthB (runM P far m).bl b with
 | none=>rw [hk] at hb;cases hb
 | some k =>
  rw [hk] at hb
  simp only [Option.map_some,Option.some.injEq,Prod.mk.injEq] at hb
  obtain⟨rfl,hown,hl,hz,hct⟩:=hb
  obtain⟨h3,h4⟩:=nthB_ex hk
  obtain⟨r,hB,_,hN,hC⟩:=I.blk b k h3 h4
  obtain⟨r', rfl⟩:=hC C hct
  have hN:=hN _ hz
  have hbody:bodyC k.cells=[]:=by
   cases hc:k.cells with
   | nil=>rfl
   | cons y l =>
    rw [hc] at hct hl
    have h5:ctA y=some C:=hct
    have:l=[]:=by simpa using hl
    show (if isT y then l else y::l)=[]
    rw [if_pos (ctA_T h5),this]
  rw [hbody] at hB hN
  refine⟨β b,cap,r', rfl,I.own b k h3 hown,hB,?_,I.bel⟩
  rw [← hN]
  show C.size+r'.length=0+(C.toList++r').length
  simp
theorem Pack.bL{vs': List Value}{svs:List SV}{bl:List Blk}(pk:Pack S W vs' svs bl κ Φ){b:Nat}{C:Array Value}{r:List Value}{T:TypeId}(B:W.heap[b]? = some (.cells ⟨C.toList++r⟩ T (0,0)))(n cap:Nat)(h:packB svs bl κ.length Φ.length=true:=by kernel_rfl):Pack S W (vs'++[.slice (some ⟨b,0,none⟩) n cap]) (svs++[.s (.o (.ls bl.length n cap))]) (bl++[⟨T,[mkL (C.size+r.length) C],false,none,false⟩]) κ Φ:=by
 obtain⟨xs,β,h0,h1,h2,h3,h4⟩:=pk.ex
 simp only [packB,Bool.and_eq_true] at h
 let β' : Nat→Nat:=fun i=>if i=bl.length then b else β i
 have s:Same bl.length κ.length Φ.length ⟨β,κ,kat xs⟩ ⟨β', κ,kat xs⟩:=⟨fun i hi=>if_neg (Nat.ne_of_lt hi),fun n hn=>rfl,fun n hn=>rfl⟩
 have hb:β' bl.length=b:=if_pos rfl
 refine⟨xs,β', h0,h1,?_,h3,fun i k hk=>?_⟩
 ·rw [List.map_append,SV.sameL s h.1,← h2]
  congr 1
  show [Value.slice (some ⟨b,0,none⟩) n cap]=[.slice (some ⟨β' bl.length,0,none⟩) n cap]
  rw [hb]
 ·rcases nth_snoc hk with hk|⟨rfl,rfl⟩
  ·obtain⟨g,g'⟩:=h4 i k hk
   exact⟨g,by rw [show β' i=β i from if_neg (Nat.ne_of_lt (nth_lt hk))];exact g'.env (At.sameL s (List.all_eq_true.1 h.2 k (nth_mem hk)))⟩
  ·refine⟨⟨rfl,rfl,rfl⟩,C.toList++r,?_,fun h=>(by cases h),fun N hN=>?_,fun C' hC' => ?_⟩
   ·rw [hb];exact B
   ·have hN:C.size+r.length=N:=Option.some.inj hN
    show 0+(C.toList++r).length=N
    rw [List.length_append,Array.length_toList,← hN];omega
   ·have hC' : C=C' := Option.some.inj hC'
    subst hC';exact⟨r,rfl⟩
theorem Inv.bL{β:Nat→Nat}{κ': List Value}{ℓ:Nat→Value}{bl:List Blk}{sf:List Nat}{w:World}(I:Inv A S W κ Φ ⟨β,κ', ℓ⟩ bl sf w)(n:Nat){C:Array Value}{T:TypeId}(h:(nthB bl n).map (fun k=>(k.ty,k.cells.length,contT k.cells))=some (T,1,some C):=by kernel_rfl):∃ r:List Value,w.heap[β n]? = some (.cells ⟨C.toList++r⟩ T (0,0)):=by
 cases hk:nthB bl n with
 | none=>rw [hk] at h;cases h
 | some k =>
  rw [hk] at h
  simp only [Option.map_some,Option.some.injEq,Prod.mk.injEq] at h
  obtain⟨rfl,hl,hct⟩:=h
  obtain⟨h3,h4⟩:=nthB_ex hk
  obtain⟨r,hB,_,_,hC⟩:=I.blk n k h3 h4
  obtain⟨r', rfl⟩:=hC C hct
  have hbody:bodyC k.cells=[]:=by
   cases hc:k.cells with
   | nil=>rfl
   | cons y l =>
    rw [hc] at hct hl
    have h5:ctA y=some C:=hct
    have:l=[]:=by simpa using hl
    show (if isT y then l else y::l)=[]
    rw [if_pos (ctA_T h5),this]
  rw [hbody] at hB
  exact⟨r', hB⟩
def inE(r:Nat)(m:MS):MS:=match m.cur with|.code (.loop b)=>{ m with cur:=.ex .normal,ks:=.kl b r::m.ks }|_=>m
theorem Run.ee(r:Nat)(R:Run P S W κ Φ Q (inE r (runL P far m))):Run P S W κ Φ Q m:=by
 refine runL_sound far ?_
 generalize runL P far m=q at R
 unfold inE at R
 split at R
 ·rename_i b hc
  exact⟨fun A E a w I G=>by rw [hc];exact⟨r,R.r A E a w I G⟩⟩
 ·exact R
def atE(d:Nat)(m:MS):Bool:=match m.cur,m.ks with
 | .ex .normal,.kl _ _::l=>Nat.beq l.length d
 | _,_=>false
def runE(P:Program)(d n:Nat):MS→MS:=Nat.rec (fun m=>m) (fun _ ih m=>match atE d m with|true=>m|false=>match stepM P m with|some m' => ih m'|none=>m) n
theorem runE_sound(d:Nat):∀ (n:Nat) {m:MS},Run P S W κ Φ Q (runE P d n m)→Run P S W κ Φ Q m
 | 0,m,R=>R
 | n+1,m,R=>by
  have R:Run P S W κ Φ Q (match atE d m with|true=>m|false=>match stepM P m with|some m' => runE P d n m'|none=>m):=R
  split at R
  ·exact R
  ·split at R
   ·rename_i m' hm;exact step_sound hm (runE_sound d n R)
   ·exact R
theorem Run.te(d:Nat)(R:Run P S W κ Φ Q (runE P d far m)):Run P S W κ Φ Q m:=runE_sound d far R
end
def fstLoop:Code→List Kf→Option (Code×List Kf)
 | .seq x y,ks=>match fstLoop x (.kc y::ks) with|some r=>some r|none=>fstLoop y ks
 | .cond _ x y,ks=>match fstLoop x ks with|some r=>some r|none=>fstLoop y ks
 | .block id c,ks=>fstLoop c (.kb id::ks)
 | .loop b,ks=>some (b,ks)
 | .scope c,ks=>fstLoop c (.ks::ks)
 | _,_=>none
def bodyOf(fn:Func):Code:=match fn.body with|some c=>c|none=>.skip
def stLp(fn:Func)(r nk nv:Nat)(F:List (Nat×SV))(B:List Blk):MS:=match fstLoop (bodyOf fn) [] with
 | some (b,ks)=>⟨.ex .normal,.kl b r::ks,(List.range fn.ntmps).map (look F),B,nk,nv,[],[]⟩
 | none=>⟨.ex .normal,[],[],[],0,0,[],[]⟩
theorem AllF.monoV{S S': Nat→Prop}{w:World}(hS:∀ k,k<w.heap.size→S k→S' k):∀ {xs:List Value} {φs:List VP},AllF S w xs φs→AllF S' w xs φs
 | [],[],_=>trivial
 | x::xs,φ::φs,h=>⟨⟨h.1.1,φ.mono hS h.1.2⟩,AllF.monoV hS h.2⟩
theorem AllF.growV{S:Nat→Prop}{w w': World}(g:GrowS S w w'):∀ {xs:List Value} {φs:List VP},AllF S w xs φs→AllF S w' xs φs
 | [],[],_=>trivial
 | x::xs,φ::φs,h=>⟨⟨h.1.1,φ.grow g h.1.2⟩,AllF.growV g h.2⟩
def PkP(xs:List Value)(φs:List VP):VP:=⟨fun S _ w=>AllF S w xs φs,fun hS h=>AllF.monoV hS h,fun g h=>AllF.growV g h⟩
section
variable {P:Program} {A S:Nat→Prop} {W:World} {κ κs:List Value} {Φ:List VP} {Q:Exit→Act→World→Prop} {m:MS}
def At.gk(a k nk:Nat):At→At
 | .v i=>if Nat.ble a i&&Nat.blt i (a+k) then .k (nk+(i-a)) else .v i
 | x=>x
def S1.gk(a k nk:Nat):S1→S1
 | .o x=>.o (x.gk a k nk)
 | .agg l=>.agg (l.map (At.gk a k nk))
def SV.gk(a k nk:Nat):SV→SV
 | .s x=>.s (x.gk a k nk)
 | .tup l=>.tup (l.map (S1.gk a k nk))
theorem At.gk_d{E:Env}{a k nk:Nat}(h:∀ i,a≤i→i<a+k→kat E.κ (nk+(i-a))=E.ℓ i)(x:At):(x.gk a k nk).d E=x.d E:=by
 cases x with
 | v i =>
  show (if (Nat.ble a i&&Nat.blt i (a+k))=true then At.k (nk+(i-a)) else .v i).d E=_
  split
  ·rename_i hb
   rw [Bool.and_eq_true] at hb
   exact h i (Nat.le_of_ble_eq_true hb.1) (blt_lt hb.2)
  ·rfl
 | _=>rfl
theorem At.gk_isT{a k nk:Nat}(x:At):isT (x.gk a k nk)=isT x:=by
 cases x with
 | v i=>show isT (if (Nat.ble a i&&Nat.blt i (a+k))=true then At.k (nk+(i-a)) else .v i)=_;split<;>rfl
 | _=>rfl
theorem S1.gk_d{E:Env}{a k nk:Nat}(h:∀ i,a≤i→i<a+k→kat E.κ (nk+(i-a))=E.ℓ i)(x:S1):(x.gk a k nk).d E=x.d E:=by
 cases x with
 | o x=>exact At.gk_d h x
 | agg l =>
  show Value.agg ⟨(l.map _).map (At.d E)⟩=.agg ⟨l.map (At.d E)⟩
  rw [List.map_map]
  congr 2
  exact List.map_congr_left fun x _=>At.gk_d h x
theorem SV.gk_d{E:Env}{a k nk:Nat}(h:∀ i,a≤i→i<a+k→kat E.κ (nk+(i-a))=E.ℓ i)(x:SV):(x.gk a k nk).d E=x.d E:=by
 cases x with
 | s x=>exact S1.gk_d h x
 | tup l =>
  show Value.tuple ⟨(l.map _).map (S1.d E)⟩=.tuple ⟨l.map (S1.d E)⟩
  rw [List.map_map]
  congr 2
  exact List.map_congr_left fun x _=>S1.gk_d h x
def Blk.gk(a k nk:Nat)(b:Blk):Blk:={ b with cells:=b.cells.map (At.gk a k nk) }
def gkM(a k:Nat)(m:MS):MS:={ m with fr:=m.fr.map (Option.map (SV.gk a k m.nk)),bl:=m.bl.map (Blk.gk a k m.nk),nk:=m.nk+k,nv:=m.nv+1 }
theorem head_gk{a k nk:Nat}(cs:List At):headT (cs.map (At.gk a k nk))=headT cs:=by
 cases cs with
 | nil=>rfl
 | cons x l=>exact At.gk_isT x
theorem Inv.gkB{E:Env}{w:World}{bl:List Blk}{sf:List Nat}{a k nk:Nat}(I:Inv A S W κ Φ E bl sf w)(h:∀ i,a≤i→i<a+k→kat E.κ (nk+(i-a))=E.ℓ i):Inv A S W κ Φ E (bl.map (Blk.gk a k nk)) sf w:=by
 have at_:∀ {c:Nat} {l:Blk},nth (bl.map (Blk.gk a k nk)) c=some l→∃ l', nth bl c=some l'∧l=l'.gk a k nk:=fun {c l} h=>by
  rw [nth_map] at h
  cases h0:nth bl c with
  | none=>rw [h0] at h;cases h
  | some l' => rw [h0] at h;cases h;exact⟨l', rfl,rfl⟩
 refine⟨I.ek,I.bel,?_,?_,?_,?_,?_,I.ol,I.ok,I.fac,I.up,?_,?_,?_⟩
 ·intro c l h;obtain⟨l', h1,rfl⟩:=at_ h;exact I.lt c l' h1
 ·intro c l hl hf
  obtain⟨l', h1,rfl⟩:=at_ hl
  have hB:=I.blk c l' h1 hf
  exact hB.as (E' := E) (by
   show _=(l'.cells.map (At.gk a k nk)).map (At.d E)
   rw [List.map_map]
   exact List.map_congr_left fun x _=>(At.gk_d h x).symm) (head_gk _).symm
 ·intro c l h ho;obtain⟨l', h1,rfl⟩:=at_ h;exact I.own c l' h1 ho
 ·intro c l h ho;obtain⟨l', h1,rfl⟩:=at_ h;exact I.old c l' h1 ho
 ·intro c d l l2 h g ho1 ho2 hn
  obtain⟨l', h1,rfl⟩:=at_ h
  obtain⟨l2', g1,rfl⟩:=at_ g
  exact I.inj c d l' l2' h1 g1 ho1 ho2 hn
 ·intro c l h ho hs;obtain⟨l', h1,rfl⟩:=at_ h;exact I.se c l' h1 ho hs
 ·intro c l h hs;obtain⟨l', h1,rfl⟩:=at_ h;exact I.so c l' h1 hs
 ·intro c l n h hfn;obtain⟨l', h1,rfl⟩:=at_ h;exact I.sof c l' n h1 hfn
def factsAt(Φ:List VP)(sf:List Nat)(a:Nat):Nat→Option (List VP)
 | 0=>some []
 | k+1=>match nth Φ a,hasN sf a,factsAt Φ sf (a+1) k with
  | some φ,false,some l=>some (φ::l)
  | _,_,_=>none
theorem facts_all{E:Env}{bl:List Blk}{sf:List Nat}{w:World}(I:Inv A S W κ Φ E bl sf w):∀ (k a:Nat) (φs:List VP),factsAt Φ sf a k=some φs→AllF A w ((List.range k).map (fun i=>E.ℓ (a+i))) φs
 | 0,a,φs,h=>by cases h;trivial
 | k+1,a,φs,h=>by
  unfold factsAt at h
  split at h
  ·rename_i φ l h1 h2 h3
   cases h
   rw [List.range_succ_eq_map,List.map_cons,List.map_map]
   refine⟨⟨I.ol _,I.fac a φ h1 h2⟩,?_⟩
   have:=facts_all I k (a+1) l h3
   have e:(List.range k).map ((fun i=>E.ℓ (a+i)) ∘ Nat.succ)=(List.range k).map (fun i=>E.ℓ (a+1+i)):=List.map_congr_left fun i _=>(show E.ℓ (a+(i+1))=_ by rw [show a+(i+1)=a+1+i by omega])
   rw [e];exact this
  ·cases h
theorem Run.gk(a k:Nat)(φs:List VP)(rest:∀ xs:List Value,xs.length=k→xs.all (·.oneCell')=true→Run P S W (κ++xs) (Φ++[PkP xs φs]) Q (gkM a k (runM P far m)))(hφ:factsAt Φ (runM P far m).sf a k=some φs:=by kernel_rfl)(hf:fitB (runM P far m) κ Φ=true:=by kernel_rfl)(hv:Nat.ble (a+k) (runM P far m).nv=true:=by kernel_rfl):Run P S W κ Φ Q m :=
 run_sound far <| Run.mk fun A0 E a0 w I G=>by
  obtain⟨β,κ', ℓ⟩:=E
  have e:=I.ek
  simp only at e
  subst e
  generalize hm:runM P far m=q at *
  have hall:=facts_all I k a φs hφ
  have hlen:((List.range k).map (fun i=>ℓ (a+i))).length=k:=by simp
  have hone:((List.range k).map (fun i=>ℓ (a+i))).all (·.oneCell')=true:=List.all_eq_true.2 fun x hx=>by
   obtain⟨i,_,rfl⟩:=List.mem_map.1 hx;exact I.ol _
  obtain⟨I', hG⟩:=I.more (w' := w) (κs:=(List.range k).map (fun i=>ℓ (a+i))) (φs:=[PkP ((List.range k).map (fun i=>ℓ (a+i))) φs]) (xs:=[.bool false]) hf (Below.refl _ _) (kat_all hone) (fun n=>by cases n with|zero=>rfl|succ n=>cases n<;>rfl) (fun n χ hn=>by
   cases n with
   | zero=>cases hn;exact hall.monoV (fun k _ hk=>.inl hk)
   | succ n=>cases n<;>cases hn)
  have hf' := hf
  simp only [fitB,MS.okB,Bool.and_eq_true] at hf'
  obtain⟨⟨⟨f0,f1⟩,f2⟩,f3⟩:=hf'
  have f2:=Nat.eq_of_beq_eq_true f2
  have hv:=Nat.le_of_ble_eq_true hv
  have key:∀ i,a≤i→i<a+k→kat (Env.more ⟨β,κ', ℓ⟩ ((List.range k).map (fun i=>ℓ (a+i))) q.nv [.bool false]).κ (q.nk+(i-a))=(Env.more ⟨β,κ', ℓ⟩ ((List.range k).map (fun i=>ℓ (a+i))) q.nv [.bool false]).ℓ i:=by
   intro i h1 h2
   show kat (κ'++_) (q.nk+(i-a))=(if i<q.nv then ℓ i else _)
   rw [if_pos (by omega),f2,kat_app]
   have h3:∀ (n j:Nat) (f:Nat→Value),j<n→kat ((List.range n).map f) j=f j:=by
    intro n
    induction n with
    | zero=>intro j f h;omega
    | succ n ih =>
     intro j f h
     rw [List.range_succ_eq_map,List.map_cons,List.map_map]
     cases j with
     | zero=>rfl
     | succ j=>exact ih j (f ∘ Nat.succ) (by omega)
   rw [h3 k (i-a) _ (by omega)]
   congr 1;omega
  have I2:=I'.gkB (a:=a) (k:=k) (nk:=q.nk) key
  have G1:=hG a0 G
  refine (rest _ hlen hone).r _ _ a0 w I2 ⟨G1.nd,by rw [G1.sz];simp [gkM],fun i v hv=>?_⟩
  have hv:nth (q.fr.map (Option.map (SV.gk a k q.nk))) i=some (some v):=hv
  rw [nth_map] at hv
  cases h0:nth q.fr i with
  | none=>rw [h0] at hv;cases hv
  | some u =>
   cases u with
   | none=>rw [h0] at hv;cases hv
   | some u=>rw [h0] at hv;cases hv;rw [G1.at_ i u h0,SV.gk_d key]
def iaOf(m:MS):Option (TypeId×Nat×Nat×Nat×Option SV) :=
 match opOf m with
 | some o=>match o.op with
  | .indexAddr TS x y=>match eoF m.fr x with
   | some (.s (.o (.ls b n c)))=>some (TS,b,n,c,eoF m.fr y)
   | _=>none
  | _=>none
 | none=>none
def aftP(b off:Nat)(m:MS):MS :=
 match m.cur with
 | .ops all (o::rest)=>{ m with cur:=.ops all rest,fr:=putF m.fr o.dst (some (.s (.o (.p b off)))) }
 | _=>m
theorem Run.ia(b n c j sz:Nat)(TS:TypeId)(hj:j<n)(rest:Run P S W κ Φ Q (aftP b (sz*j) (runM P far m)))(ha:∀ β ℓ,(iaOf (runM P far m)).map (fun q=>(q.1,q.2.1,q.2.2.1,q.2.2.2.1,q.2.2.2.2.map (SV.d ⟨β,κ,ℓ⟩)))=some (TS,b,n,c,some (.int .i64 j)):=by intro β ℓ;kernel_rfl)(hsz:((sliceE P TS).bind P.info?).map (·.size)=some sz:=by kernel_rfl):Run P S W κ Φ Q m :=
 run_sound far <| Run.mk fun A0 E a w I G=>by
  obtain⟨β,κ', ℓ⟩:=E
  have e:=I.ek
  simp only at e
  subst e
  generalize hm:runM P far m=q at *
  have ha:=ha β ℓ
  unfold iaOf at ha
  cases ho:opOf q with
  | none=>rw [ho] at ha;cases ha
  | some o =>
   obtain⟨all,rst,hcur⟩:=op_cur ho
   obtain⟨_,hg⟩:=guard_ok G hcur ho
   rw [ho] at ha
   simp only at ha
   split at ha
   ·rename_i TS' x y hop
    split at ha
    ·rename_i b' n' c' hx
     simp only [Option.map_some,Option.some.injEq,Prod.mk.injEq] at ha
     obtain⟨rfl,rfl,rfl,rfl,hy⟩:=ha
     cases hv:eoF q.fr y with
     | none=>rw [hv] at hy;cases hy
     | some vy =>
      rw [hv,Option.map_some,Option.some.injEq] at hy
      have hx:=eval_eo G x _ hx
      have hy:=(eval_eo G y _ hv).trans hy
      rw [den_op hcur]
      refine wL_val hg (x_ixs sz hx hy hsz hop (by omega) (by omega) (k:=sz*j) (by rw [Int.toNat_natCast])) ?_
      have G1:=put_v G o.dst (.s (.o (.p b' (sz*j))))
      have hq:aftP b' (sz*j) q={ q with cur:=.ops all rst,fr:=putF q.fr o.dst (some (.s (.o (.p b' (sz*j))))) }:=by unfold aftP;rw [hcur]
      rw [hq] at rest
      exact rest.r _ _ _ w I G1
    ·cases ha
   ·cases ha
def ldOf(fr:List (Option SV))(o:Oper):Option (TypeId×Nat×Nat) :=
 match o.op with
 | .load T x=>match eoF fr x with
  | some (.s (.o (.p b off)))=>some (T,b,off)
  | _=>none
 | _=>none
theorem Run.lh(b off sz:Nat)(T:TypeId)(es:List Value)(sh:SV)(C:Array Value)(hC:(C.toList.drop off).take sz=es)(rest:Run P S W (κ++es) (Φ++[]) Q (aft (runM P far m) sh sh.nk 0))(ha:(opOf (runM P far m)).bind (ldOf (runM P far m).fr)=some (T,b,off):=by kernel_rfl)(hb:(nthB (runM P far m).bl b).map (fun k=>(k.cells.length,contT k.cells))=some (1,some C):=by kernel_rfl)(hl:ldB P T sz=true:=by kernel_rfl)(hes:es.length=sz:=by kernel_rfl)(h0:Nat.blt 0 sz=true:=by kernel_rfl)(hV:∀ β ℓ,ldV P T es=sh.d ⟨β,es,ℓ⟩:=by intro β ℓ;kernel_rfl)(h1:es.all (·.oneCell')=true:=by kernel_rfl)(hf:fitB (runM P far m) κ Φ=true:=by kernel_rfl)(hn:Nat.beq sh.nk es.length=true:=by kernel_rfl):Run P S W κ Φ Q m:=by
 refine Run.va (V:=ldV P T es) es sh (a:=fun o β ℓ ρ=>∃ x,o.op=.load T x∧ρ x=.pointer (some ⟨β b,off,none⟩)) (fun {A} β ℓ w o ρ I hp=>?_) rest (fun β ℓ a A=>?_) hV h1 hf hn
 ·obtain⟨x,hop,hp⟩:=hp
  generalize runM P far m=q at *
  cases hk:nthB q.bl b with
  | none=>rw [hk] at hb;cases hb
  | some k =>
   rw [hk] at hb
   simp only [Option.map_some,Option.some.injEq,Prod.mk.injEq] at hb
   obtain⟨h3,h4⟩:=nthB_ex hk
   obtain⟨r,hB,_,_,hct⟩:=I.blk b k h3 h4
   obtain⟨r', rfl⟩:=hct C hb.2
   have hbody:bodyC k.cells=[]:=by
    cases hc:k.cells with
    | nil=>rfl
    | cons a l =>
     have h5:=hb.2
     have h6:=hb.1
     rw [hc] at h5 h6
     have h5:ctA a=some C:=h5
     have:l=[]:=by simpa using h6
     show (if isT a then l else a::l)=[]
     rw [if_pos (ctA_T h5),this]
   rw [hbody,List.map_nil,List.nil_append] at hB
   have hj' : off+sz≤C.toList.length:=take_ge (by rw [hC,hes]) (by simpa [Nat.blt_eq] using h0)
   unfold ldB at hl
   split at hl
   ·rename_i n' hn'
    rw [Bool.and_eq_true] at hl
    have e1:=Nat.eq_of_beq_eq_true hl.1
    subst e1
    unfold ldV
    cases hag:aggB P T with
    | true =>
     rw [if_pos rfl]
     obtain⟨d', k1,k2⟩:=aggB_ex hag
     refine ex_load_part T _ hop hp hB k1 (by cases d'<;>first|rfl|cases k2) n' hn' (by simp only [List.size_toArray,List.length_append];omega) ?_
     apply Array.toList_inj.1
     rw [Array.toList_extract,List.extract_eq_take_drop]
     show (((C.toList++r').drop off).take (off+n'-off))=es
     rw [List.drop_append_of_le_length (by omega),List.take_append_of_le_length (by rw [List.length_drop];omega),← hC]
     congr 1;omega
    | false =>
     rw [if_neg (by decide)]
     have h2:=hl.2
     rw [hag,Bool.false_or,Bool.and_eq_true] at h2
     have e1:=Nat.eq_of_beq_eq_true h2.1
     subst e1
     refine x_ldc hp hB hop h2.2 ?_
     have e3:(C.toList++r')[off]? = C.toList[off]?:=List.getElem?_append_left (by omega)
     show nth (C.toList++r') off=_
     rw [nth_eq,e3]
     cases es with
     | nil=>cases hes
     | cons e0 l =>
      show _=some e0
      have:(C.toList.drop off).take 1=[e0]:=by rw [hC];cases l with|nil=>rfl|cons=>simp at hes
      have h5:=congrArg (fun l=>l[0]?) this
      simpa [List.getElem?_take,List.getElem?_drop] using h5
   ·cases hl
 ·cases ho:opOf (runM P far m) with
  | none=>rw [ho] at ha;cases ha
  | some o =>
   rw [ho] at ha
   refine⟨o,rfl,?_⟩
   have ha:ldOf (runM P far m).fr o=some (T,b,off):=ha
   unfold ldOf at ha
   split at ha
   ·rename_i T' x hop
    split at ha
    ·rename_i b' off' hx
     cases ha
     exact⟨x,hop,eval_eo A x _ hx⟩
    ·cases ha
   ·cases ha
theorem Pack.f{vs': List Value}{svs:List SV}{bl:List Blk}(pk:Pack S W vs' svs bl κ Φ){ψ:VP}{v:Value}(hv:v.oneCell'=true)(t:ψ.p S v W)(h:packB svs bl κ.length Φ.length=true:=by kernel_rfl):Pack S W vs' svs bl κ (Φ++[ψ]):=by
 obtain⟨xs,β,h0,h1,h2,h3,h4⟩:=pk.ex
 simp only [packB,Bool.and_eq_true] at h
 have s:Same bl.length κ.length Φ.length ⟨β,κ,kat xs⟩ ⟨β,κ,kat (xs++[v])⟩:=⟨fun i hi=>rfl,fun n hn=>rfl,fun n hn=>kat_left _ _ _ (by omega)⟩
 refine⟨xs++[v],β,by simp [h0],fun n=>?_,?_,fun n χ hn=>?_,fun i k hk=>?_⟩
 ·rcases kat_or xs [v] n with e|⟨j,e⟩
  ·rw [e];exact h1 n
  ·rw [e];cases j with|zero=>exact hv|succ j=>cases j<;>rfl
 ·rw [SV.sameL s h.1,← h2]
 ·rcases Nat.lt_or_ge n Φ.length with hn'|hn'
  ·rw [nth_eq,List.getElem?_append_left hn'] at hn
   rw [kat_left _ _ _ (by omega)]
   exact h3 n χ (by rw [nth_eq];exact hn)
  ·rcases nth_snoc hn with hn|⟨rfl,rfl⟩
   ·rw [nth_eq] at hn;exact absurd (List.getElem?_eq_some_iff.1 hn).1 (by omega)
   ·have e:kat (xs++[v]) Φ.length=v:=by rw [← h0];exact kat_app xs [v] 0
    rw [e];exact ψ.amb t
 ·obtain⟨g,g'⟩:=h4 i k hk
  exact⟨g,g'.env (At.sameL s (List.all_eq_true.1 h.2 k (nth_mem hk)))⟩
end
end Go.Proofs.YtcdbmjnipaochaaGreat.Eng
namespace Go.Proofs.YtcdbmjnipaochaaGreat
open Go.RowKit Rgn Eng
variable {S:Nat→Prop} {W:World}
theorem flat_at{α:Type}{f:α→List Value}{n:Nat}(hf:∀ a,(f a).length=n)(d:α):∀ {l:List α} {j:Nat},j<l.length→((l.flatMap f).drop (n*j)).take n=f (l.getD j d)
 | a::l,0,_=>by
  rw [Nat.mul_zero,List.drop_zero,List.flatMap_cons,List.take_append_of_le_length (by rw [hf];exact Nat.le_refl _),List.take_of_length_le (by rw [hf];exact Nat.le_refl _)];rfl
 | a::l,j+1,h=>by
  rw [List.flatMap_cons,List.drop_append,List.drop_of_length_le (by rw [hf,Nat.mul_succ];omega),List.nil_append,hf,show n*(j+1)-n=n*j by rw [Nat.mul_succ];omega]
  exact flat_at hf d (by simpa using h)
theorem flat_len{α:Type}{f:α→List Value}{n:Nat}(hf:∀ a,(f a).length=n):∀ l:List α,(l.flatMap f).length=l.length*n
 | []=>by simp
 | a::l=>by rw [List.flatMap_cons,List.length_append,hf,flat_len hf l,List.length_cons,Nat.succ_mul];omega
theorem part_at{L c:List Value}{a n k m:Nat}(h:(L.drop a).take n=c)(hk:k+m≤n):(L.drop (a+k)).take m=(c.drop k).take m:=by
 rw [← h,List.drop_take,List.take_take,List.drop_drop,Nat.min_eq_left (by omega)]
def frsC(l:List RF):Array Value:=⟨l.flatMap fun r=>(rfC r).toList⟩
theorem frsC_at{l:List RF}{j:Nat}(h:j<l.length):((frsC l).toList.drop (4*j)).take 4=(rfC (l.getD j rz.re)).toList:=flat_at (f:=fun r:RF=>(rfC r).toList) (fun _=>rfl) rz.re h
theorem frsC_a{l:List RF}{j:Nat}(h:j<l.length):((frsC l).toList.drop (4*j+1)).take 1=[.string (l.getD j rz.re).a.s]:=(part_at (frsC_at h) (by decide)).trans rfl
theorem frsC_b{l:List RF}{j:Nat}(h:j<l.length):((frsC l).toList.drop (4*j+3)).take 1=[.string (l.getD j rz.re).b.s]:=(part_at (frsC_at h) (by decide)).trans rfl
theorem frsC_size(l:List RF):(frsC l).size=l.length*4:=flat_len (f:=fun r:RF=>(rfC r).toList) (fun _=>rfl) l
theorem drop_rf{l:List RF}{j:Nat}(h:j<l.length):l.drop j=l.getD j rz.re::l.drop (j+1):=by
 rw [List.drop_eq_getElem_cons h];simp [List.getD_eq_getElem?_getD,h]
theorem frsC_app(l:List RF)(r:RF):frsC l++(rfC r).toList.toArray=frsC (l++[r]):=by
 apply Array.toList_inj.1
 rw [Array.toList_append]
 show l.flatMap _++(rfC r).toList=(l++[r]).flatMap _
 rw [List.flatMap_append];simp
theorem lgD_1{r:RF}(h1:decide (60<((r.a.s.size:Nat):Int))=true)(h2:decide (((r.a.s.size:Nat):Int)≤1024)=true):lgD r=true:=by unfold lgD lg6;rw [h1,h2];rfl
theorem lgD_2{r:RF}(h1:decide (60<((r.b.s.size:Nat):Int))=true)(h2:decide (((r.b.s.size:Nat):Int)≤1024)=true):lgD r=true:=by unfold lgD lg6;rw [h1,h2];exact Bool.or_true _
theorem lgD_3{r:RF}(h:decide (60<((r.a.s.size:Nat):Int))=false∨decide (((r.a.s.size:Nat):Int)≤1024)=false)(g:decide (60<((r.b.s.size:Nat):Int))=false∨decide (((r.b.s.size:Nat):Int)≤1024)=false):lgD r=false:=by
 unfold lgD lg6
 rcases h with h|h<;>rcases g with g|g<;>rw [h,g]<;>simp
theorem l23longL{b0:Nat}(T:TypeId)(l:List RF)(cap:Nat)(B0:∃ r:List Value,W.heap[b0]? = some (.cells ⟨(frsC l).toList++r⟩ T (0,0)))(p0:l.length≤100000):Calls Tryz.prog 41 #[.slice (some ⟨b0,0,none⟩) l.length cap] W (RetV (.bool (l.any lgD)) W):=by
 obtain⟨r,B0⟩:=B0
 refine Run.goP (S:=Z0) (Pack.nil.bL B0 l.length cap) Tryz.func41 rfl ?_
 refine Run.tl (l.length+1) ?_
 refine Run.lpX (ι:=Nat) [(0,.s (.o (.ls 0 l.length cap))),(3,.s (.o (.k 0))),(4,.s (.o (.k 0))),(5,.s (.o (.ls 0 l.length cap)))]
  [⟨T,[mkL ((frsC l).size+r.length) (frsC l)],false,none,false⟩] 1 0
  (fun x=>[.int .i64 (x:Nat)]) (fun _=>[])
  (fun r x=>x+r=l.length+1∧x≤l.length∧(l.drop x).any lgD=l.any lgD) ?_ (fun L=>?_)
 · intro r i h IH
   obtain⟨h1,h2,h3⟩:=h
   refine Run.ln l.length 104 ?_
   by_cases hi:i<l.length
   · obtain⟨r', rfl⟩:∃ r', r=r'+1:=⟨r-1,by omega⟩
     refine Run.ik .lss i (l.length:Nat) true (dT (by omega)) ?_
     rw [← h3,drop_rf hi,List.any_cons]
     have fa:=frsC_a hi
     have fb:=frsC_b hi
     have hN:∀ {e:Bool},lgD (l.getD i rz.re)=e→e=false→(l.drop (i+1)).any lgD=(lgD (l.getD i rz.re)||(l.drop (i+1)).any lgD):=fun h he=>by rw [h,he];rfl
     have R:lgD (l.getD i rz.re)=false→Run Tryz.prog Z0 W _ _ (bodyPost Tryz.prog Tryz.f41 (RetV (.bool (lgD (l.getD i rz.re)||(l.drop (i+1)).any lgD)) W)) _:=fun he=>by
       have R:=IH r' (i+1) rfl ⟨by omega,hi,by rw [← h3,drop_rf hi,List.any_cons,he];rfl⟩
       rw [← h3,drop_rf hi,List.any_cons] at R
       exact R
     clear IH h3
     generalize l.getD i rz.re=q at *
     refine Run.ia 0 l.length cap i 4 104 hi ?_
     refine Run.lh 0 (4*i+1) 1 9 [.string q.a.s] kb (frsC l) fa ?_
     refine Run.sl q.a.s 9 Tryz.underlying9 ?_
     refine (Bool.eq_false_or_eq_true (decide (60<((q.a.s.size:Nat):Int)))).elim (fun c0=>?_) (fun c0=>?_)
     · refine Run.bi (op:=.gtr) (t:=3) (a:=.int .i64 ((q.a.s.size:Nat):Int)) (c:=.int .i64 60) [] (cb true) (fun w o ρ x y t' ho hx hy=>ex_icmp .gtr _ _ _ (congrArg some c0) ho hx hy) ?_
       refine Run.ia 0 l.length cap i 4 104 hi ?_
       refine Run.lh 0 (4*i+1) 1 9 [.string q.a.s] kb (frsC l) fa ?_
       refine Run.sl q.a.s 9 Tryz.underlying9 ?_
       refine (Bool.eq_false_or_eq_true (decide (((q.a.s.size:Nat):Int)≤1024))).elim (fun c1=>?_) (fun c1=>?_)
       · refine Run.bi (op:=.leq) (t:=3) (a:=.int .i64 ((q.a.s.size:Nat):Int)) (c:=.int .i64 1024) [] (cb true) (fun w o ρ x y t' ho hx hy=>ex_icmp .leq _ _ _ (congrArg some c1) ho hx hy) ?_
         exact Run.rV (V' := .bool true) (congrArg Value.bool (by rw [lgD_1 c0 c1];rfl))
       · refine Run.bi (op:=.leq) (t:=3) (a:=.int .i64 ((q.a.s.size:Nat):Int)) (c:=.int .i64 1024) [] (cb false) (fun w o ρ x y t' ho hx hy=>ex_icmp .leq _ _ _ (congrArg some c1) ho hx hy) ?_
         refine Run.ia 0 l.length cap i 4 104 hi ?_
         refine Run.lh 0 (4*i+3) 1 9 [.string q.b.s] kb (frsC l) fb ?_
         refine Run.sl q.b.s 9 Tryz.underlying9 ?_
         refine (Bool.eq_false_or_eq_true (decide (60<((q.b.s.size:Nat):Int)))).elim (fun c2=>?_) (fun c2=>?_)
         · refine Run.bi (op:=.gtr) (t:=3) (a:=.int .i64 ((q.b.s.size:Nat):Int)) (c:=.int .i64 60) [] (cb true) (fun w o ρ x y t' ho hx hy=>ex_icmp .gtr _ _ _ (congrArg some c2) ho hx hy) ?_
           refine Run.ia 0 l.length cap i 4 104 hi ?_
           refine Run.lh 0 (4*i+3) 1 9 [.string q.b.s] kb (frsC l) fb ?_
           refine Run.sl q.b.s 9 Tryz.underlying9 ?_
           refine (Bool.eq_false_or_eq_true (decide (((q.b.s.size:Nat):Int)≤1024))).elim (fun c3=>?_) (fun c3=>?_)
           · refine Run.bi (op:=.leq) (t:=3) (a:=.int .i64 ((q.b.s.size:Nat):Int)) (c:=.int .i64 1024) [] (cb true) (fun w o ρ x y t' ho hx hy=>ex_icmp .leq _ _ _ (congrArg some c3) ho hx hy) ?_
             exact Run.rV (V' := .bool true) (congrArg Value.bool (by rw [lgD_2 c2 c3];rfl))
           · refine Run.bi (op:=.leq) (t:=3) (a:=.int .i64 ((q.b.s.size:Nat):Int)) (c:=.int .i64 1024) [] (cb false) (fun w o ρ x y t' ho hx hy=>ex_icmp .leq _ _ _ (congrArg some c3) ho hx hy) ?_
             refine Run.bi (op:=.add) (t:=3) (a:=.int .i64 i) (c:=.int .i64 1) [.int .i64 ((i+1:Nat):Int)] kb (fun w o ρ x y t' ho hx hy=>ex_iadd (wrap_62 (n:=(i:Int)+1) (by omega) (by omega)) ho hx hy) ?_
             refine Run.to far ?_
             exact Run.as (fun k=>k) id (R (lgD_3 (.inr c1) (.inr c3))) (hc:=by kernel_rfl) (hk:=by kernel_rfl)
         · refine Run.bi (op:=.gtr) (t:=3) (a:=.int .i64 ((q.b.s.size:Nat):Int)) (c:=.int .i64 60) [] (cb false) (fun w o ρ x y t' ho hx hy=>ex_icmp .gtr _ _ _ (congrArg some c2) ho hx hy) ?_
           refine Run.bi (op:=.add) (t:=3) (a:=.int .i64 i) (c:=.int .i64 1) [.int .i64 ((i+1:Nat):Int)] kb (fun w o ρ x y t' ho hx hy=>ex_iadd (wrap_62 (n:=(i:Int)+1) (by omega) (by omega)) ho hx hy) ?_
           refine Run.to far ?_
           exact Run.as (fun k=>k) id (R (lgD_3 (.inr c1) (.inl c2))) (hc:=by kernel_rfl) (hk:=by kernel_rfl)
     · refine Run.bi (op:=.gtr) (t:=3) (a:=.int .i64 ((q.a.s.size:Nat):Int)) (c:=.int .i64 60) [] (cb false) (fun w o ρ x y t' ho hx hy=>ex_icmp .gtr _ _ _ (congrArg some c0) ho hx hy) ?_
       refine Run.ia 0 l.length cap i 4 104 hi ?_
       refine Run.lh 0 (4*i+3) 1 9 [.string q.b.s] kb (frsC l) fb ?_
       refine Run.sl q.b.s 9 Tryz.underlying9 ?_
       refine (Bool.eq_false_or_eq_true (decide (60<((q.b.s.size:Nat):Int)))).elim (fun c4=>?_) (fun c4=>?_)
       · refine Run.bi (op:=.gtr) (t:=3) (a:=.int .i64 ((q.b.s.size:Nat):Int)) (c:=.int .i64 60) [] (cb true) (fun w o ρ x y t' ho hx hy=>ex_icmp .gtr _ _ _ (congrArg some c4) ho hx hy) ?_
         refine Run.ia 0 l.length cap i 4 104 hi ?_
         refine Run.lh 0 (4*i+3) 1 9 [.string q.b.s] kb (frsC l) fb ?_
         refine Run.sl q.b.s 9 Tryz.underlying9 ?_
         refine (Bool.eq_false_or_eq_true (decide (((q.b.s.size:Nat):Int)≤1024))).elim (fun c5=>?_) (fun c5=>?_)
         · refine Run.bi (op:=.leq) (t:=3) (a:=.int .i64 ((q.b.s.size:Nat):Int)) (c:=.int .i64 1024) [] (cb true) (fun w o ρ x y t' ho hx hy=>ex_icmp .leq _ _ _ (congrArg some c5) ho hx hy) ?_
           exact Run.rV (V' := .bool true) (congrArg Value.bool (by rw [lgD_2 c4 c5];rfl))
         · refine Run.bi (op:=.leq) (t:=3) (a:=.int .i64 ((q.b.s.size:Nat):Int)) (c:=.int .i64 1024) [] (cb false) (fun w o ρ x y t' ho hx hy=>ex_icmp .leq _ _ _ (congrArg some c5) ho hx hy) ?_
           refine Run.bi (op:=.add) (t:=3) (a:=.int .i64 i) (c:=.int .i64 1) [.int .i64 ((i+1:Nat):Int)] kb (fun w o ρ x y t' ho hx hy=>ex_iadd (wrap_62 (n:=(i:Int)+1) (by omega) (by omega)) ho hx hy) ?_
           refine Run.to far ?_
           exact Run.as (fun k=>k) id (R (lgD_3 (.inl c0) (.inr c5))) (hc:=by kernel_rfl) (hk:=by kernel_rfl)
       · refine Run.bi (op:=.gtr) (t:=3) (a:=.int .i64 ((q.b.s.size:Nat):Int)) (c:=.int .i64 60) [] (cb false) (fun w o ρ x y t' ho hx hy=>ex_icmp .gtr _ _ _ (congrArg some c4) ho hx hy) ?_
         refine Run.bi (op:=.add) (t:=3) (a:=.int .i64 i) (c:=.int .i64 1) [.int .i64 ((i+1:Nat):Int)] kb (fun w o ρ x y t' ho hx hy=>ex_iadd (wrap_62 (n:=(i:Int)+1) (by omega) (by omega)) ho hx hy) ?_
         refine Run.to far ?_
         exact Run.as (fun k=>k) id (R (lgD_3 (.inl c0) (.inl c4))) (hc:=by kernel_rfl) (hk:=by kernel_rfl)
   · obtain rfl:i=l.length:=by omega
     refine Run.ik .lss (l.length:Nat) (l.length:Nat) false (dF (by omega)) ?_
     exact Run.rV (congrArg Value.bool (by rw [← h3,List.drop_length];try rfl))
 · refine Run.to far ?_
   exact Run.as (fun k=>k) id (L (l.length+1) 0 ⟨by omega,by omega,rfl⟩) (hc:=by kernel_rfl) (hk:=by kernel_rfl)
theorem l23long1{b0:Nat}(T0:TypeId)(a:RF)(B0:W.heap[b0]? = some (.cells (⟨(rfC a).toList⟩) T0 (0,0))):Calls Tryz.prog 41 #[.slice (some ⟨b0,0,none⟩) 1 1] W (RetV (.bool ([a].any lgD)) W) :=
 l23longL T0 [a] 1 ⟨[],B0.trans (by rw [show (frsC [a]).toList++[]=_ from List.append_nil _];rfl)⟩ (by simp)
def intsC(l:List Int):Array Value:=⟨l.map (Value.int .i64)⟩
theorem intsC_at{l:List Int}{j:Nat}(h:j<l.length):((intsC l).toList.drop (1*j)).take 1=[.int .i64 (l.getD j 0)]:=by
 show ((l.map (Value.int .i64)).drop (1*j)).take 1=_
 rw [Nat.one_mul,← List.map_drop,List.drop_eq_getElem_cons h,List.map_cons]
 show [Value.int .i64 l[j]]=[.int .i64 (l.getD j 0)]
 rw [List.getD_eq_getElem?_getD,List.getElem?_eq_getElem h];rfl
theorem intsC_app(l:List Int)(i:Int):intsC l++[Value.int .i64 i].toArray=intsC (l++[i]):=by
 apply Array.toList_inj.1
 rw [Array.toList_append]
 show l.map (Value.int .i64)++[.int .i64 i]=(l++[i]).map (Value.int .i64)
 simp
theorem intsC_size(l:List Int):(intsC l).size=l.length*1:=by show (l.map _).length=_;simp
theorem drop_at{l:List Int}{j:Nat}(h:j<l.length):l.drop j=l.getD j 0::l.drop (j+1):=by
 rw [List.drop_eq_getElem_cons h];simp [List.getD_eq_getElem?_getD,h]
structure Q4 where
 a:Ci
 b:Ci
 c:Ci
 d:Ci
abbrev Q4.C(x:Q4):List Value:=(ciC x.a).toList++(ciC x.b).toList++(ciC x.c).toList++(ciC x.d).toList
def Q4.at(x:Q4)(i:Int):Ci:=if i=0 then x.a else if i=1 then x.b else if i=2 then x.c else x.d
def Q4.z:List Value:=(rciC rzCi).toList++(rciC rzCi).toList++(rciC rzCi).toList++(rciC rzCi).toList
def Q4.V(o:Option Q4)(k:Int):Value:=match o with
 | some x=>.tuple #[.agg ⟨x.C⟩,.int .i64 0]
 | none=>.tuple #[.agg ⟨Q4.z⟩,.int .i64 k]
def Q4.sm(x:Q4):Prop:=(ht x.a.a+ht x.a.b.re+ht x.a.b.im+ht x.a.c≤40000)∧(ht x.b.a+ht x.b.b.re+ht x.b.b.im+ht x.b.c≤40000)∧(ht x.c.a+ht x.c.b.re+ht x.c.b.im+ht x.c.c≤40000)∧(ht x.d.a+ht x.d.b.re+ht x.d.b.im+ht x.d.c≤40000)
@[reducible] def gtB(p q:Rat):Bool:=decide (0<icmp (p.num*(q.den:Int)) (q.num*(p.den:Int)))
@[reducible] def geB(p q:Rat):Bool:=decide (0≤icmp (p.num*(q.den:Int)) (q.num*(p.den:Int)))
def Q4.top(x:Q4):Int :=
 if gtB x.b.a x.a.a=true then (if gtB x.c.a x.b.a=true then (if gtB x.d.a x.c.a=true then 3 else 2) else (if gtB x.d.a x.b.a=true then 3 else 1))
 else (if gtB x.c.a x.a.a=true then (if gtB x.d.a x.c.a=true then 3 else 2) else (if gtB x.d.a x.a.a=true then 3 else 0))
theorem Run.pq{P:Program}{κ:List Value}{Φ:List VP}{Q1 Q2:Exit→Act→World→Prop}{m:MS}(h:Q1=Q2)(R:Run P S W κ Φ Q2 m):Run P S W κ Φ Q1 m:=h ▸ R
end Go.Proofs.YtcdbmjnipaochaaGreat
namespace Go.Proofs.YtcdbmjnipaochaaGreat
open Go.RowKit Rgn
abbrev metV(x y:Rat):Rat:=rabs (x-y)*fdbl ((y.den:Int)*(y.den:Int))
def metB(x y:Rat):Bool:=decide (icmp ((metV x y).num*((Rat.divInt 1 1).den:Int)) ((Rat.divInt 1 1).num*((metV x y).den:Int))≤0)
abbrev metR(x y:Rat):Rat:=(rabs (x-y)+rabs (x-y))*(((y.den:Int)*(y.den:Int):Int):Rat)
theorem met_ref(x y:Rat):decide (icmp ((metR x y).num*((1:Rat).den:Int)) ((1:Rat).num*((metR x y).den:Int))≤0)=metB x y:=by
 have e1:metR x y=metV x y:=by
  show (rabs (x-y)+rabs (x-y))*(((y.den:Int)*(y.den:Int):Int):Rat)=rabs (x-y)*(((y.den:Int)*(y.den:Int)+(y.den:Int)*(y.den:Int):Int):Rat)
  generalize rabs (x-y)=d
  generalize (y.den:Int)*(y.den:Int)=n
  rw [Rat.intCast_add];grind
 have e2:Rat.divInt (1:Int) (1:Int)=(1:Rat):=by decide +kernel
 unfold metB
 rw [e1,e2]
theorem abs_rf(x:Rat):RF.mk (rw ((x.num.natAbs:Nat):Int)) (rw (x.den:Int))=rf (rabs x):=by
 obtain⟨h1,h2,h3⟩:=rabs_parts x
 have h4:(rabs x).num=((x.num.natAbs:Nat):Int):=by
  rw [← h2]
  have:=of_decide_eq_false h1
  omega
 show _=RF.mk (rw (rabs x).num) (rw ((rabs x).den:Int))
 rw [h4,h3]
noncomputable def metL(x:Rat):Nat→List RF→List Int
 | _,[]=>[]
 | i,q::l=>if metB x (valM q)=true then (i:Int)::metL x (i+1) l else metL x (i+1) l
noncomputable def metF(x:Rat):Nat→List RF→List Int→Option (List Int)
 | _,[],L=>some L
 | i,q::l,L=>if fmay q=true then metF x (i+1) l (if metB x (valM q)=true then L++[(i:Int)] else L) else none
theorem metF_eq(x:Rat):∀ (l:List RF) (i:Nat) (L:List Int),metF x i l L=if l.all fmay=true then some (L++metL x i l) else none
 | [],i,L=>by simp [metF,metL]
 | q::l,i,L=>by
  rw [metF,metF_eq x l,metL,List.all_cons]
  cases fmay q<;>cases l.all fmay<;>cases metB x (valM q)<;>simp
theorem metF_0{x:Rat}{l:List RF}{i:Nat}{L:List Int}(h:l.length≤i):metF x i (l.drop i) L=some L:=by
 rw [List.drop_of_length_le h];rfl
theorem metF_n{x:Rat}{l:List RF}{i:Nat}{L:List Int}(hi:i<l.length)(h:fmay (l.getD i rz.re)=false):metF x i (l.drop i) L=none:=by
 rw [drop_rf hi,metF,if_neg (by rw [h];decide)]
theorem metF_t{x:Rat}{l:List RF}{i:Nat}{L:List Int}(hi:i<l.length)(h:fmay (l.getD i rz.re)=true)(h2:metB x (valM (l.getD i rz.re))=true):metF x i (l.drop i) L=metF x (i+1) (l.drop (i+1)) (L++[(i:Int)]):=by
 rw [drop_rf hi,metF,if_pos h,if_pos h2]
theorem metF_f{x:Rat}{l:List RF}{i:Nat}{L:List Int}(hi:i<l.length)(h:fmay (l.getD i rz.re)=true)(h2:metB x (valM (l.getD i rz.re))=false):metF x i (l.drop i) L=metF x (i+1) (l.drop (i+1)) L:=by
 rw [drop_rf hi,metF,if_pos h,if_neg (by rw [h2];decide)]
theorem metL_t{x:Rat}{l:List RF}{i:Nat}(hi:i<l.length)(h2:metB x (valM (l.getD i rz.re))=true):metL x i (l.drop i)=(i:Int)::metL x (i+1) (l.drop (i+1)):=by
 rw [drop_rf hi,metL,if_pos h2]
theorem metL_f{x:Rat}{l:List RF}{i:Nat}(hi:i<l.length)(h2:metB x (valM (l.getD i rz.re))=false):metL x i (l.drop i)=metL x (i+1) (l.drop (i+1)):=by
 rw [drop_rf hi,metL,if_neg (by rw [h2];decide)]
theorem metL_0{x:Rat}{l:List RF}:metL x l.length (l.drop l.length)=[]:=by rw [List.drop_length];rfl
theorem valM_fits{q:RF}(h:fmay q=true):fits (rf (valM q))=true:=by
 obtain⟨y,rfl⟩:=fmay_ex h
 rw [valM_rf h,← fmay_rf];exact h
theorem valM_eq{q:RF}(h:fmay q=true):q=rf (valM q):=by
 obtain⟨y,rfl⟩:=fmay_ex h
 rw [valM_rf h]
theorem met_ht(x y:Rat):ht (metV x y)≤ht x+ht y+4*ht y+1:=by
 have h1:=ht_sub x y
 have h2:=ht_rabs (x-y)
 have h3:=ht_fdbl ((y.den:Int)*(y.den:Int))
 have h4:=hi_mul (y.den:Int) (y.den:Int)
 have h5:=hi_den y
 have h6:=ht_mul (rabs (x-y)) (fdbl ((y.den:Int)*(y.den:Int)))
 show ht (rabs (x-y)*fdbl ((y.den:Int)*(y.den:Int)))≤_
 omega
def MetPost(R:Option (List Int))(W:World):Ending→World→Prop:=match R with
 | some []=>RetV (.tuple #[.slice none 0 0,.int .i64 0]) W
 | some (i::l)=>Eng.RetL 3 1 (l.length+1) (intsC (i::l)) (fun s=>.tuple #[s,.int .i64 0]) W
 | none=>RetV (.tuple #[.slice none 0 0,.int .i64 2]) W
theorem mp_L{fn:Func}{W:World}{R:Option (List Int)}{L:List Int}{n:Nat}(e:R=some L)(h:n=L.length)(h0:0<n):bodyPost Tryz.prog fn (MetPost R W)=bodyPost Tryz.prog fn (Eng.RetL 3 1 n (intsC L) (fun s=>.tuple #[s,.int .i64 0]) W):=by
 subst e;subst h
 cases L with
 | nil=>exact absurd h0 (by decide)
 | cons i l=>rfl
theorem mp_0{fn:Func}{W:World}{R:Option (List Int)}(e:R=some []):bodyPost Tryz.prog fn (MetPost R W)=bodyPost Tryz.prog fn (RetV (.tuple #[.slice none 0 0,.int .i64 0]) W):=by subst e;rfl
theorem mp_n{fn:Func}{W:World}{R:Option (List Int)}(e:R=none):bodyPost Tryz.prog fn (MetPost R W)=bodyPost Tryz.prog fn (RetV (.tuple #[.slice none 0 0,.int .i64 2]) W):=by subst e;rfl
end Go.Proofs.YtcdbmjnipaochaaGreat
namespace Go.Proofs.YtcdbmjnipaochaaGreat
open Go.RowKit Rgn Eng
variable {S:Nat→Prop} {W:World}
theorem fAbs(x:Rat):Calls Tryz.prog 172 #[fV x] W (RetV (fV (rabs x)) W):=by
 refine Run.goP (S:=Z0) (Pack.nil.k (fV x) (fC x).toList (.s (.agg (ks 0 4)))) Tryz.func172 rfl ?_
 refine Run.dr ?_
 refine RunD.cV (wC (x.num.natAbs:Int)).toList (.s (.agg (ks 0 2))) (fun _ _ _ H=>rAbs x.num) ?_
 refine RunD.en ?_
 exact Run.rV ((congrArg rfV (abs_rf x)))
theorem rfMet(x y:Rat)(p0:ht x+ht y≤1000000):Calls Tryz.prog 60 #[fV x,fV y] W (RetV (.bool (metB x y)) W):=by
 have h1:=ht_sub x y
 have h2:=ht_rabs (x-y)
 have h3:=ht_add (rabs (x-y)) (rabs (x-y))
 have h4:=hi_den y
 have h5:=hi_mul (y.den:Int) (y.den:Int)
 have h6:=ht_int_le ((y.den:Int)*(y.den:Int))
 have h7:=ht_mul ((rabs (x-y))+(rabs (x-y))) (((y.den:Int)*(y.den:Int):Int):Rat)
 have h8:ht (1:Rat)=2:=by decide
 have k0:=ht_sub x y
 have k1:=ht_add (rabs (x-y)) (rabs (x-y))
 have k2:=ht_mul ((rabs (x-y))+(rabs (x-y))) ((((y.den:Int)*(y.den:Int)):Int):Rat)
 refine Run.goP (S:=Z0) ((Pack.nil.k (fV x) (fC x).toList (.s (.agg (ks 0 4)))).k (fV y) (fC y).toList (.s (.agg (ks 0 4)))) Tryz.func60 rfl ?_
 refine Run.cV (fC (x-y)).toList (.s (.agg (ks 0 4))) (fun _ _ _ H=>fMinus x y (by omega)) ?_
 refine Run.cV (fC (rabs (x-y))).toList (.s (.agg (ks 0 4))) (fun _ _ _ H=>fAbs (x-y)) ?_
 refine Run.cV (wC ((y.den:Int)*(y.den:Int))).toList (.s (.agg (ks 0 2))) (fun _ _ _ H=>rTimes (y.den:Int) (y.den:Int) (by omega)) ?_
 refine Run.cV (fC ((((y.den:Int)*(y.den:Int)):Int):Rat)).toList (.s (.agg (ks 0 4))) (fun _ _ _ H=>fWholeN ((y.den:Int)*(y.den:Int))) ?_
 refine Run.dr ?_
 refine RunD.cV (fC ((rabs (x-y))+(rabs (x-y)))).toList (.s (.agg (ks 0 4))) (fun _ _ _ H=>fPlus (rabs (x-y)) (rabs (x-y)) (by omega)) ?_
 refine RunD.cV (fC (((rabs (x-y))+(rabs (x-y)))*((((y.den:Int)*(y.den:Int)):Int):Rat))).toList (.s (.agg (ks 0 4))) (fun _ _ _ H=>fTimes ((rabs (x-y))+(rabs (x-y))) ((((y.den:Int)*(y.den:Int)):Int):Rat) (by omega)) ?_
 refine RunD.cV (fC (1:Rat)).toList (.s (.agg (ks 0 4))) (fun _ _ _ H=>fInt 1 (by decide) (by decide)) ?_
 refine RunD.cV [.int .i64 (icmp ((((rabs (x-y))+(rabs (x-y)))*((((y.den:Int)*(y.den:Int)):Int):Rat)).num*((1:Rat).den:Int)) ((1:Rat).num*((((rabs (x-y))+(rabs (x-y)))*((((y.den:Int)*(y.den:Int)):Int):Rat)).den:Int)))] kb (fun _ _ _ H=>fCmp (((rabs (x-y))+(rabs (x-y)))*((((y.den:Int)*(y.den:Int)):Int):Rat)) (1:Rat) (by omega)) ?_
 refine RunD.bi [.bool (decide ((icmp ((((rabs (x-y))+(rabs (x-y)))*((((y.den:Int)*(y.den:Int)):Int):Rat)).num*((1:Rat).den:Int)) ((1:Rat).num*((((rabs (x-y))+(rabs (x-y)))*((((y.den:Int)*(y.den:Int)):Int):Rat)).den:Int)))≤0))] kb (fun _ _ _ o1 o2 _ ho hx hy=>ex_icmp .leq 3 (icmp ((((rabs (x-y))+(rabs (x-y)))*((((y.den:Int)*(y.den:Int)):Int):Rat)).num*((1:Rat).den:Int)) ((1:Rat).num*((((rabs (x-y))+(rabs (x-y)))*((((y.den:Int)*(y.den:Int)):Int):Rat)).den:Int))) 0 (kk:=.i64) rfl ho hx hy) ?_
 refine RunD.en ?_
 exact Run.rV ((congrArg Value.bool (met_ref x y)))
theorem foMetN{b0:Nat}(T:TypeId)(x:RF)(l:List RF)(cap:Nat)(B0:∃ r:List Value,W.heap[b0]? = some (.cells ⟨(frsC l).toList++r⟩ T (0,0)))(p0:fmay x=false):Calls Tryz.prog 59 #[rfV x,.slice (some ⟨b0,0,none⟩) l.length cap] W (RetV (.tuple #[.slice none 0 0,.int .i64 2]) W):=by
 obtain⟨r,B0⟩:=B0
 refine Run.goP (S:=Z0) ((Pack.nil.k (rfV x) (rfC x).toList (.s (.agg (ks 0 4)))).bL B0 l.length cap) Tryz.func59 rfl ?_
 refine Run.cV [] (.s (.o (.c (.pointer none)))) (fun _ _ _ H=>eRatF x p0) ?_
 refine Run.bi (op:=.eql) (t:=143) (a:=.pointer none) (c:=.pointer none) [] (cb true) (fun w o ρ x y t' ho hx hy=>ex_zz (fun w=>by kernel_rfl) ho hx hy) ?_
 exact Run.rV rfl
theorem metLoop(T:TypeId)(x:Rat)(l:List RF)(cap rn:Nat)(p0:ht x≤8200)(hl:l.length≤4000){R0:Option (List Int)}(r:Nat):∀ (i cq n:Nat) (L:List Int),i+r=l.length+1→i≤l.length→n=L.length→(0<n∧n≤i)→metF x i (l.drop i) L=R0 →
    Run Tryz.prog Z0 W [.int .i64 (l.length:Nat),.int .i64 (i:Nat)] [RatP x] (bodyPost Tryz.prog Tryz.f59 (MetPost R0 W)) (stLp Tryz.f59 r 2 1 [(1,.s (.o (.ls 0 l.length cap))),(6,.s (.o (.v 0))),(7,.s (.o (.ls 1 n (cq+n)))),(16,.s (.o (.ls 0 l.length cap))),(17,.s (.o (.k 0))),(18,.s (.o (.k 1)))] [⟨T,[mkL ((frsC l).size+rn) (frsC l)],false,none,false⟩,⟨3,[mkL ((cq+n)*1) (intsC L)],true,none,false⟩]):=by
 induction r with
 | zero=>intro i cq n L h1 h0 _ h3;omega
 | succ r ih =>
   intro i cq n L h1 h0 h2' h3' h4
   by_cases hi:i<l.length
   · refine Run.ik .lss i (l.length:Nat) true (dT (by omega)) ?_
     have fa:=frsC_at hi
     generalize hq:l.getD i rz.re=q at *
     refine Run.ia 0 l.length cap i 4 104 hi ?_
     refine Run.lh 0 (4*i) 4 25 (rfC q).toList (.s (.agg (ks 0 4))) (frsC l) fa ?_
     cases hm:fmay q with
     | false =>
       have e:=metF_n (x:=x) (L:=L) hi (by rw [hq];exact hm)
       rw [h4] at e
       refine Run.cV [] (.s (.o (.c (.pointer none)))) (fun _ _ _ H=>eRatF q hm) ?_
       refine Run.bi (op:=.eql) (t:=143) (a:=.pointer none) (c:=.pointer none) [] (cb true) (fun w o ρ x y t' ho hx hy=>ex_zz (fun w=>by kernel_rfl) ho hx hy) ?_
       exact Run.pq (mp_n e) (Run.rV rfl)
     | true =>
       have f1:=fits_ht_le (valM_fits hm)
       have h1:=ht_sub x (valM q)
       have h2:=ht_rabs (x-valM q)
       have h3:=ht_fdbl (((valM q).den:Int)*((valM q).den:Int))
       have h5:=hi_mul ((valM q).den:Int) ((valM q).den:Int)
       have h6:=hi_den (valM q)
       have h7:=ht_mul (rabs (x-valM q)) (fdbl (((valM q).den:Int)*((valM q).den:Int)))
       have h8:ht (Rat.divInt (1:Int) (1:Int))=2:=by decide
       refine Run.cR spRat (fun _ _ _ H=>eRatT q hm) ?_
       refine Run.np 1 (valM q) 143 .eql false (.inl ⟨rfl,rfl⟩) (fun c w=>by kernel_rfl) ?_
       refine Run.cO 3 softRat (fun _ _ _ H=>qSub x (valM q) (RatP.blk (H.oz 3)) (anyV (H.f 0)) (anyV (H.f 1)) (by omega)) ?_
       refine Run.cO 3 softRat (fun _ _ _ H=>qAbs (x-valM q) (RatP.blk (q:=(x-valM q)) (H.o 3)) (anyV (H.o 3)) (by omega)) ?_
       refine Run.cR spInto (fun _ _ _ H=>qDenom (valM q) (H.f 1) (by omega)) ?_
       refine Run.cR spInto (fun _ _ _ H=>qDenom (valM q) (H.f 1) (by omega)) ?_
       refine Run.cN 210 softInt ownInt (fun _ _ _ H=>foTimes ((valM q).den:Int) ((valM q).den:Int) (H.f 4) (H.f 5) (by omega)) ?_
       refine Run.cN 212 softRat ownRat (fun _ _ _ H=>foTwo (((valM q).den:Int)*((valM q).den:Int)) (anyV (H.o 4)) (by omega)) ?_
       refine Run.cO 3 softRat (fun _ _ _ H=>qMul (rabs (x-valM q)) (fdbl (((valM q).den:Int)*((valM q).den:Int))) (RatP.blk (q:=rabs (x-valM q)) (H.o 3)) (anyV (H.o 3)) (anyV (H.o 5)) (by omega)) ?_
       refine Run.cR spRat (fun _ _ _ H=>qNewRat 1 1 (by decide) (by decide) (by decide) (by decide) (by decide)) ?_
       refine Run.cV [.int .i64 (icmp ((metV x (valM q)).num*((Rat.divInt 1 1).den:Int)) ((Rat.divInt 1 1).num*((metV x (valM q)).den:Int)))] kb (fun _ _ _ H=>qCmp (metV x (valM q)) (Rat.divInt 1 1) (anyV (H.o 3)) (anyV (H.f 9)) (by have:=met_ht x (valM q);omega)) ?_
       refine Run.se 3 ?_
       refine Run.se 4 ?_
       refine Run.se 5 ?_
       cases hb:metB x (valM q) with
       | false =>
         have e:=metF_f (x:=x) (L:=L) hi (by rw [hq];exact hm) (by rw [hq];exact hb)
         rw [h4] at e
         refine Run.bi (op:=.leq) (t:=3) (a:=.int .i64 (icmp ((metV x (valM q)).num*((Rat.divInt 1 1).den:Int)) ((Rat.divInt 1 1).num*((metV x (valM q)).den:Int)))) (c:=.int .i64 0) [] (cb false) (fun w o ρ x y t' ho hx hy=>ex_icmp .leq _ _ _ (congrArg some hb) ho hx hy) ?_
         refine Run.bi (op:=.add) (t:=3) (a:=.int .i64 i) (c:=.int .i64 1) [.int .i64 ((i+1:Nat):Int)] kb (fun w o ρ x y t' ho hx hy=>ex_iadd (wrap_62 (n:=(i:Int)+1) (by omega) (by omega)) ho hx hy) ?_
         refine Run.te 2 ?_
         exact Run.as (fun k=>k) id (ih (i+1) cq n L (by omega) (by omega) h2' (by omega) e.symm) (hc:=by kernel_rfl) (hk:=by kernel_rfl)
       | true =>
         have e:=metF_t (x:=x) (L:=L) hi (by rw [hq];exact hm) (by rw [hq];exact hb)
         rw [h4] at e
         refine Run.bi (op:=.leq) (t:=3) (a:=.int .i64 (icmp ((metV x (valM q)).num*((Rat.divInt 1 1).den:Int)) ((Rat.divInt 1 1).num*((metV x (valM q)).den:Int)))) (c:=.int .i64 0) [] (cb true) (fun w o ρ x y t' ho hx hy=>ex_icmp .leq _ _ _ (congrArg some hb) ho hx hy) ?_
         refine Run.al 31 1 n cq 6 (intsC L) (intsC (L++[(i:Int)])) [.int .i64 (i:Int)] 1 (by omega) (by rw [intsC_size,← h2']) (intsC_app L (i:Int)) (fun cq=>?_)
         refine Run.bi (op:=.add) (t:=3) (a:=.int .i64 i) (c:=.int .i64 1) [.int .i64 ((i+1:Nat):Int)] kb (fun w o ρ x y t' ho hx hy=>ex_iadd (wrap_62 (n:=(i:Int)+1) (by omega) (by omega)) ho hx hy) ?_
         refine Run.te 2 ?_
         exact Run.as (fun k=>k) id (ih (i+1) cq (n+1) (L++[(i:Int)]) (by omega) (by omega) (by simp;omega) (by omega) e.symm) (hc:=by kernel_rfl) (hk:=by kernel_rfl)
   · have e:=metF_0 (x:=x) (L:=L) (show l.length≤i by omega)
     rw [h4] at e
     refine Run.ik .lss i (l.length:Nat) false (dF (by omega)) ?_
     refine Run.ln l.length 104 ?_
     refine Run.ik .gtr (l.length:Nat) 4096 false (dF (by omega)) ?_
     exact Run.pq (mp_L e h2' h3'.1) (Run.rL 1 cq (.tup [.o (.ls 1 n (cq+n)),.o (.c (.int .i64 0))]))
theorem metNil(T:TypeId)(x:Rat)(l:List RF)(cap rn:Nat)(p0:ht x≤8200)(hl:l.length≤4000){R0:Option (List Int)}(r:Nat):∀ (i:Nat),i+r=l.length+1→i≤l.length→metF x i (l.drop i) []=R0 →
    Run Tryz.prog Z0 W [.int .i64 (l.length:Nat),.int .i64 (i:Nat)] [RatP x] (bodyPost Tryz.prog Tryz.f59 (MetPost R0 W)) (stLp Tryz.f59 r 2 1 [(1,.s (.o (.ls 0 l.length cap))),(6,.s (.o (.v 0))),(7,constSV (.slice none 0 0)),(16,.s (.o (.ls 0 l.length cap))),(17,.s (.o (.k 0))),(18,.s (.o (.k 1)))] [⟨T,[mkL ((frsC l).size+rn) (frsC l)],false,none,false⟩]):=by
 induction r with
 | zero=>intro i h1 h0;omega
 | succ r ih =>
   intro i h1 h0 h4
   by_cases hi:i<l.length
   · refine Run.ik .lss i (l.length:Nat) true (dT (by omega)) ?_
     have fa:=frsC_at hi
     generalize hq:l.getD i rz.re=q at *
     refine Run.ia 0 l.length cap i 4 104 hi ?_
     refine Run.lh 0 (4*i) 4 25 (rfC q).toList (.s (.agg (ks 0 4))) (frsC l) fa ?_
     cases hm:fmay q with
     | false =>
       have e:=metF_n (x:=x) (L:=[]) hi (by rw [hq];exact hm)
       rw [h4] at e
       refine Run.cV [] (.s (.o (.c (.pointer none)))) (fun _ _ _ H=>eRatF q hm) ?_
       refine Run.bi (op:=.eql) (t:=143) (a:=.pointer none) (c:=.pointer none) [] (cb true) (fun w o ρ x y t' ho hx hy=>ex_zz (fun w=>by kernel_rfl) ho hx hy) ?_
       exact Run.pq (mp_n e) (Run.rV rfl)
     | true =>
       have f1:=fits_ht_le (valM_fits hm)
       have h1:=ht_sub x (valM q)
       have h2:=ht_rabs (x-valM q)
       have h3:=ht_fdbl (((valM q).den:Int)*((valM q).den:Int))
       have h5:=hi_mul ((valM q).den:Int) ((valM q).den:Int)
       have h6:=hi_den (valM q)
       have h7:=ht_mul (rabs (x-valM q)) (fdbl (((valM q).den:Int)*((valM q).den:Int)))
       have h8:ht (Rat.divInt (1:Int) (1:Int))=2:=by decide
       refine Run.cR spRat (fun _ _ _ H=>eRatT q hm) ?_
       refine Run.np 1 (valM q) 143 .eql false (.inl ⟨rfl,rfl⟩) (fun c w=>by kernel_rfl) ?_
       refine Run.cO 2 softRat (fun _ _ _ H=>qSub x (valM q) (RatP.blk (H.oz 2)) (anyV (H.f 0)) (anyV (H.f 1)) (by omega)) ?_
       refine Run.cO 2 softRat (fun _ _ _ H=>qAbs (x-valM q) (RatP.blk (q:=(x-valM q)) (H.o 2)) (anyV (H.o 2)) (by omega)) ?_
       refine Run.cR spInto (fun _ _ _ H=>qDenom (valM q) (H.f 1) (by omega)) ?_
       refine Run.cR spInto (fun _ _ _ H=>qDenom (valM q) (H.f 1) (by omega)) ?_
       refine Run.cN 210 softInt ownInt (fun _ _ _ H=>foTimes ((valM q).den:Int) ((valM q).den:Int) (H.f 4) (H.f 5) (by omega)) ?_
       refine Run.cN 212 softRat ownRat (fun _ _ _ H=>foTwo (((valM q).den:Int)*((valM q).den:Int)) (anyV (H.o 3)) (by omega)) ?_
       refine Run.cO 2 softRat (fun _ _ _ H=>qMul (rabs (x-valM q)) (fdbl (((valM q).den:Int)*((valM q).den:Int))) (RatP.blk (q:=rabs (x-valM q)) (H.o 2)) (anyV (H.o 2)) (anyV (H.o 4)) (by omega)) ?_
       refine Run.cR spRat (fun _ _ _ H=>qNewRat 1 1 (by decide) (by decide) (by decide) (by decide) (by decide)) ?_
       refine Run.cV [.int .i64 (icmp ((metV x (valM q)).num*((Rat.divInt 1 1).den:Int)) ((Rat.divInt 1 1).num*((metV x (valM q)).den:Int)))] kb (fun _ _ _ H=>qCmp (metV x (valM q)) (Rat.divInt 1 1) (anyV (H.o 2)) (anyV (H.f 9)) (by have:=met_ht x (valM q);omega)) ?_
       refine Run.se 2 ?_
       refine Run.se 3 ?_
       refine Run.se 4 ?_
       cases hb:metB x (valM q) with
       | false =>
         have e:=metF_f (x:=x) (L:=[]) hi (by rw [hq];exact hm) (by rw [hq];exact hb)
         rw [h4] at e
         refine Run.bi (op:=.leq) (t:=3) (a:=.int .i64 (icmp ((metV x (valM q)).num*((Rat.divInt 1 1).den:Int)) ((Rat.divInt 1 1).num*((metV x (valM q)).den:Int)))) (c:=.int .i64 0) [] (cb false) (fun w o ρ x y t' ho hx hy=>ex_icmp .leq _ _ _ (congrArg some hb) ho hx hy) ?_
         refine Run.bi (op:=.add) (t:=3) (a:=.int .i64 i) (c:=.int .i64 1) [.int .i64 ((i+1:Nat):Int)] kb (fun w o ρ x y t' ho hx hy=>ex_iadd (wrap_62 (n:=(i:Int)+1) (by omega) (by omega)) ho hx hy) ?_
         refine Run.te 2 ?_
         exact Run.as (fun k=>k) id (ih (i+1) (by omega) (by omega) e.symm) (hc:=by kernel_rfl) (hk:=by kernel_rfl)
       | true =>
         have e:=metF_t (x:=x) (L:=[]) hi (by rw [hq];exact hm) (by rw [hq];exact hb)
         rw [h4] at e
         refine Run.bi (op:=.leq) (t:=3) (a:=.int .i64 (icmp ((metV x (valM q)).num*((Rat.divInt 1 1).den:Int)) ((Rat.divInt 1 1).num*((metV x (valM q)).den:Int)))) (c:=.int .i64 0) [] (cb true) (fun w o ρ x y t' ho hx hy=>ex_icmp .leq _ _ _ (congrArg some hb) ho hx hy) ?_
         refine Run.a0 3 31 5 (fun cq=>?_)
         refine Run.hln 0 6 ((cq+1)*1) (intsC [(i:Int)]) ?_
         refine Run.bi (op:=.add) (t:=3) (a:=.int .i64 i) (c:=.int .i64 1) [.int .i64 ((i+1:Nat):Int)] kb (fun w o ρ x y t' ho hx hy=>ex_iadd (wrap_62 (n:=(i:Int)+1) (by omega) (by omega)) ho hx hy) ?_
         refine Run.te 2 ?_
         exact Run.as (fun k=>k) (fun b=>if b=1 then 6 else b) (metLoop T x l cap rn p0 hl r (i+1) cq 1 [(i:Int)] (by omega) (by omega) rfl (by omega) e.symm) (hc:=by kernel_rfl) (hk:=by kernel_rfl)
   · have e:=metF_0 (x:=x) (L:=[]) (show l.length≤i by omega)
     rw [h4] at e
     refine Run.ik .lss i (l.length:Nat) false (dF (by omega)) ?_
     refine Run.ln l.length 104 ?_
     refine Run.ik .gtr (l.length:Nat) 4096 false (dF (by omega)) ?_
     exact Run.pq (mp_0 e) (Run.rV rfl)
theorem foMetY{b0:Nat}(T:TypeId)(x:Rat)(l:List RF)(cap:Nat)(B0:∃ r:List Value,W.heap[b0]? = some (.cells ⟨(frsC l).toList++r⟩ T (0,0)))(p0:fits (rf x)=true)(hl:l.length≤4000):Calls Tryz.prog 59 #[fV x,.slice (some ⟨b0,0,none⟩) l.length cap] W (MetPost (metF x 0 l []) W):=by
 obtain⟨rr,B0⟩:=B0
 have f0:=fits_ht_le p0
 generalize hR:metF x 0 l []=R0
 refine Run.goP (S:=Z0) ((Pack.nil.k (fV x) (fC x).toList (.s (.agg (ks 0 4)))).bL B0 l.length cap) Tryz.func59 rfl ?_
 refine Run.cR spRat (fun _ _ _ H=>eRatOk x p0) ?_
 refine Run.np 0 (x) 143 .eql false (.inl ⟨rfl,rfl⟩) (fun c w=>by kernel_rfl) ?_
 refine Run.ln l.length 104 ?_
 refine Run.ee (l.length+1) ?_
 exact Run.as (fun k=>k) (fun k=>k) (metNil T x l cap rr.length f0 hl (l.length+1) 0 (by omega) (by omega) hR) (hc:=by kernel_rfl) (hk:=by kernel_rfl)
end Go.Proofs.YtcdbmjnipaochaaGreat
namespace Go.Proofs.YtcdbmjnipaochaaGreat.Eng
open Go.RowKit Rgn
abbrev CW(w:World):World→Prop:=fun w' => Below w.heap.size w w'
structure RunQ (P:Program) (S:Nat→Prop) (W:World) (κ:List Value) (Φ:List VP) (Q:Exit→Act→World→Prop) (m:MS):Prop where
 r:∀ A E a w,Inv A S W κ Φ E m.bl m.sf w→AgF m.df E m.fr a→∀ all rest,m.cur=.ops all rest→wpQuiet P all (CW w) (fun a' => ∀ w', CW w w'→denK P Q m.ks .normal a' w') rest a
def doQ(P:Program)(m:MS)(all:Array Oper)(o:Oper)(rest:List Oper):Option MS :=
 match evOp P m.sx o.op with
 | some (r,.non)=>some { m with cur:=.ops all rest,fr:=putF m.fr o.dst (some r) }
 | _=>none
def stepQ(P:Program)(m:MS):Option MS :=
 match m.cur with
 | .ops all (o::rest)=>match o.guard with
  | none=>doQ P m all o rest
  | some (q,want)=>match slotB m.fr all q with
   | some (some b)=>if b == want then doQ P m all o rest else some { m with cur:=.ops all rest,fr:=putF m.fr o.dst (some cU) }
   | some none=>some { m with cur:=.ops all rest,fr:=putF m.fr o.dst (some cU) }
   | none=>none
 | _=>none
def runQ(P:Program)(n:Nat):MS→MS:=Nat.rec (fun m=>m) (fun _ ih m=>match stepQ P m with|some m' => ih m'|none=>m) n
section
variable {P:Program} {A S:Nat→Prop} {W:World} {κ κs:List Value} {Φ φs:List VP} {Q:Exit→Act→World→Prop} {m m' : MS} {E:Env} {w:World}
theorem qL_val{ops:Array Oper}{C:World→Prop}{K:Act→Prop}{rest:List Oper}{o:Oper}{a:Act}{v:Value}(hg:Region.wanted o (yielded ops a.tmps)=true)(hr:∀ w,C w→(execOp a.eval o).run P w=.ok (.value v) w)(h:wpQuiet P ops C K rest (a.put o.dst v)):wpQuiet P ops C K (o::rest) a:=by
 refine wpQuiet_step fun K' hK=>?_
 rw [if_pos hg]
 refine⟨v,fun w hw=>?_,hK _ h⟩
 unfold Oper.quietAt
 rw [hr w hw]
 exact⟨rfl,rfl⟩
theorem qL_not{ops:Array Oper}{C:World→Prop}{K:Act→Prop}{rest:List Oper}{o:Oper}{a:Act}(hg:Region.wanted o (yielded ops a.tmps)=false)(h:wpQuiet P ops C K rest (a.put o.dst undef)):wpQuiet P ops C K (o::rest) a:=by
 refine wpQuiet_step fun K' hK=>?_
 rw [if_neg (by simp [hg])]
 exact hK _ h
theorem doQ_sound{all:Array Oper}{o:Oper}{rest:List Oper}(h:doQ P m all o rest=some m')(R:RunQ P S W κ Φ Q m')(I:Inv A S W κ Φ E m.bl m.sf w){a:Act}(G:AgF m.df E m.fr a)(hg:Region.wanted o (yielded all a.tmps)=true):wpQuiet P all (CW w) (fun a' => ∀ w', CW w w'→denK P Q m.ks .normal a' w') (o::rest) a:=by
 unfold doQ at h
 split at h
 ·rename_i r he
  cases h
  refine qL_val hg (fun w' hw' => ?_) (R.r A E _ w I (put_v G _ r) all rest rfl)
  have hd:(execOp a.eval o).run P w'=.ok (.value (r.d E)) w' := does_op ((I.low hw').sees G) he
  exact hd
 ·cases h
theorem stepQ_sound(h:stepQ P m=some m')(R:RunQ P S W κ Φ Q m'):RunQ P S W κ Φ Q m:=by
 refine⟨fun A E a w I G all rest hcur=>?_⟩
 unfold stepQ at h
 rw [hcur] at h
 cases rest with
 | nil=>cases h
 | cons o rest =>
  simp only at h
  split at h
  ·rename_i hgd
   exact doQ_sound h R I G (wanted_none hgd)
  ·rename_i q want hgd
   split at h
   ·rename_i b hs
    split at h
    ·rename_i hb
     have hb:b=want:=by simpa using hb
     subst hb
     exact doQ_sound h R I G (by unfold Region.wanted;rw [hgd];simp [slot_yield G hs])
    ·rename_i hb
     cases h
     refine qL_not (by unfold Region.wanted;rw [hgd];simp [slot_yield G hs];simpa using hb) (R.r A E _ w I (put_v G _ cU) all rest rfl)
   ·rename_i hs
    cases h
    refine qL_not (by unfold Region.wanted;rw [hgd];simp [slot_yield G hs]) (R.r A E _ w I (put_v G _ cU) all rest rfl)
   ·cases h
theorem runQ_sound:∀ (n:Nat) {m:MS},RunQ P S W κ Φ Q (runQ P n m)→RunQ P S W κ Φ Q m
 | 0,m,R=>R
 | n+1,m,R=>by
  have R:RunQ P S W κ Φ Q (match stepQ P m with|some m' => runQ P n m'|none=>m):=R
  split at R
  ·rename_i m' hm;exact stepQ_sound hm (runQ_sound n R)
  ·exact R
def inQ(m:MS):MS:={ m with cur:=.ops (opsOf m) (opsOf m).toList }
theorem Run.dq(R:RunQ P S W κ Φ Q (inQ (runM P far m)))(hd:isDr (runM P far m)=true:=by kernel_rfl)(hB:Region.lexB .any (opsOf (runM P far m))=true:=by kernel_rfl)(hm:P.follows .mixedOrders=true:=by kernel_rfl):Run P S W κ Φ Q m :=
 run_sound far <| Run.mk fun A E a w I G=>by
  generalize runM P far m=q at *
  unfold isDr at hd
  split at hd
  ·rename_i id ops hc
   have ho:opsOf q=ops:=by unfold opsOf;rw [hc]
   rw [ho] at hB
   have R:=R.r A E a w I G (opsOf q) (opsOf q).toList rfl
   rw [ho] at R
   have R:wpQuiet P ops (CW w) (fun a' => ∀ w', CW w w'→denK P Q q.ks .normal a' w') ops.toList a:=R
   rw [hc]
   refine⟨hm,?_⟩
   simp only [Region.lexB,Bool.and_eq_true] at hB
   refine wpAny_of_quiet (C:=CW w) (Q:=fun a' => ∀ w', CW w w'→denK P Q q.ks .normal a' w') (fun _ w' hw' h=>h w' hw') _ _ _ _ ?_ ?_
   ·exact⟨rfl,rfl,rfl,Nat.le_refl _,fun k hk=>rfl⟩
   ·have:=wpAnyQ_lex (C:=CW w) (md:=.any) hB.1 ops.toList 0 (Array.replicate ops.size false) a (by simp) (by simpa using hB.2) R
    simpa using this
  ·cases hd
theorem RunQ.en(R:Run P S W κ Φ Q { runQ P far m with cur:=.ex .normal })(hc:(match (runQ P far m).cur with|.ops _ []=>true|_=>false)=true:=by kernel_rfl):RunQ P S W κ Φ Q m:=by
 refine runQ_sound far ⟨fun A E a w I G all rest hcur=>?_⟩
 rw [hcur] at hc
 cases rest with
 | cons o l=>cases hc
 | nil=>exact wpQuiet_nil fun w' hw' => R.r _ E a w' (I.low hw') G
theorem RunQ.va{V:Value}(κs:List Value)(sh:SV){a:Oper→(Nat→Nat)→(Nat→Value)→(Operand→Value)→Prop}(h:∀ {A:Nat→Prop} β ℓ w o (ρ:Operand→Value),Inv A S W κ Φ ⟨β,κ,ℓ⟩ (runQ P far m).bl (runQ P far m).sf w→a o β ℓ ρ→(execOp ρ o).run P w=.ok (.value V) w)(rest:RunQ P S W (κ++κs) (Φ++[]) Q (aft (runQ P far m) sh sh.nk 0))(ha:∀ β ℓ b,AgF (runQ P far m).df ⟨β,κ,ℓ⟩ (runQ P far m).fr b→∃ o,opOf (runQ P far m)=some o∧a o β ℓ b.eval)(hV:∀ β ℓ,V=sh.d ⟨β,κs,ℓ⟩:=by intro β ℓ;kernel_rfl)(h1:κs.all (·.oneCell')=true:=by kernel_rfl)(hf:fitB (runQ P far m) κ Φ=true:=by kernel_rfl)(hn:Nat.beq sh.nk κs.length=true:=by kernel_rfl):RunQ P S W κ Φ Q m:=by
 rw [Nat.eq_of_beq_eq_true hn] at rest
 refine runQ_sound far ⟨fun A0 E a w I G all rst hcur=>?_⟩
 obtain⟨β,κ', ℓ⟩:=E
 have e:=I.ek
 simp only at e
 subst e
 obtain⟨o,ho,hp⟩:=ha β ℓ _ G
 obtain⟨all', rst', hcur'⟩:=op_cur ho
 obtain⟨_,hg⟩:=guard_ok G hcur' ho
 rw [hcur'] at hcur
 injection hcur with e1 e2
 subst e1;subst e2
 refine qL_val hg (fun w' hw' => h β ℓ w' o _ (I.low hw') hp) ?_
 obtain⟨I', hact⟩:=I.more (w' := w) (κs:=κs) (φs:=[]) (xs:=[]) hf (Below.refl _ _) (kat_all h1) (fun n=>rfl) (fun n ψ hn=>(by cases n<;>cases hn))
 have hf' := hf
 simp only [fitB,MS.okB,Bool.and_eq_true] at hf'
 have f2:=Nat.eq_of_beq_eq_true hf'.1.2
 have hq:aft (runQ P far m) sh κs.length 0={ runQ P far m with cur:=.ops all' rst', fr:=putF (runQ P far m).fr o.dst (some (sh.up (runQ P far m).nk (runQ P far m).nv)),nk:=(runQ P far m).nk+κs.length }:=by unfold aft;rw [hcur'];rfl
 rw [hq] at rest
 have G2:=put_v (hact _ G) o.dst (sh.up (runQ P far m).nk (runQ P far m).nv)
 rw [f2,SV.up_d (E:=⟨β,κ', ℓ⟩)] at G2
 have e2:sh.d ⟨β,κs,kat []⟩=V:=(hV _ _).symm
 rw [e2,← f2] at G2
 exact rest.r _ _ _ w I' G2 all' rst' rfl
theorem RunQ.cV{f:FuncId}{args:(Nat→Nat)→(Nat→Value)→Array Value}{V:Value}(κs:List Value)(sh:SV)(hc:∀ {A:Nat→Prop} β ℓ w,Inv A S W κ Φ ⟨β,κ,ℓ⟩ (runQ P far m).bl (runQ P far m).sf w→Calls P f (args β ℓ) w (RetV V w))(rest:RunQ P S W (κ++κs) (Φ++[]) Q (aft (runQ P far m) sh sh.nk 0))(ha:∀ β ℓ,argsOf P (runQ P far m) ⟨β,κ,ℓ⟩=some (f,(args β ℓ).toList):=by intro β ℓ;kernel_rfl)(hV:∀ β ℓ,V=sh.d ⟨β,κs,ℓ⟩:=by intro β ℓ;kernel_rfl)(h1:κs.all (·.oneCell')=true:=by kernel_rfl)(hf:fitB (runQ P far m) κ Φ=true:=by kernel_rfl)(hn:Nat.beq sh.nk κs.length=true:=by kernel_rfl):RunQ P S W κ Φ Q m:=by
 rw [Nat.eq_of_beq_eq_true hn] at rest
 refine runQ_sound far ⟨fun A0 E a w I G all rst hcur=>?_⟩
 obtain⟨β,κ', ℓ⟩:=E
 have e:=I.ek
 simp only at e
 subst e
 obtain⟨o,all', rst', hcur', hg,_⟩:=call_enter (w:=w) (ha β ℓ) G
 rw [hcur'] at hcur
 injection hcur with e1 e2
 subst e1;subst e2
 obtain⟨I', hact⟩:=I.more (w' := w) (κs:=κs) (φs:=[]) (xs:=[]) hf (Below.refl _ _) (kat_all h1) (fun n=>rfl) (fun n ψ hn=>(by cases n<;>cases hn))
 have hf' := hf
 simp only [fitB,MS.okB,Bool.and_eq_true] at hf'
 have f2:=Nat.eq_of_beq_eq_true hf'.1.2
 have hq:aft (runQ P far m) sh κs.length 0={ runQ P far m with cur:=.ops all' rst', fr:=putF (runQ P far m).fr o.dst (some (sh.up (runQ P far m).nk (runQ P far m).nv)),nk:=(runQ P far m).nk+κs.length }:=by unfold aft;rw [hcur'];rfl
 rw [hq] at rest
 have G2:=put_v (hact _ G) o.dst (sh.up (runQ P far m).nk (runQ P far m).nv)
 rw [f2,SV.up_d (E:=⟨β,κ', ℓ⟩)] at G2
 have e2:sh.d ⟨β,κs,kat []⟩=V:=(hV _ _).symm
 rw [e2,← f2] at G2
 refine wpQuiet_step fun K hK=>?_
 rw [if_pos hg]
 refine⟨V,fun w' hw' => ?_,hK _ (rest.r _ _ _ w I' G2 all' rst' rfl)⟩
 obtain⟨o2,all2,rst2,hcur2,_,hx⟩:=call_enter (w:=w') (ha β ℓ) G
 rw [hcur'] at hcur2
 injection hcur2 with e3 e4
 injection e4 with e5 e6
 subst e5
 unfold Oper.quietAt
 rw [hx]
 refine⟨rfl,(hc β ℓ w' (I.low hw')).mono fun e w'' hr=>?_⟩
 obtain⟨h2,h3⟩:=hr.is
 exact⟨h2,hw'.trans ⟨h3.os,h3.tape,h3.output,h3.size,fun k hk=>h3.block k (Nat.lt_of_lt_of_le hk hw'.size)⟩⟩
end
section
variable {P:Program} {A S:Nat→Prop} {W:World} {κ κs:List Value} {Φ φs:List VP} {Q:Exit→Act→World→Prop} {m q:MS} {E:Env} {w:World} {β:Nat→Nat} {ℓ:Nat→Value} {b0:Act}
theorem bin_at{op:BinOp}{t:TypeId}{a c:Value}(ha:((opOf q).bind (binOf q.fr)).map (fun q=>(q.1,q.2.1,q.2.2.1.d ⟨β,κ,ℓ⟩,q.2.2.2.d ⟨β,κ,ℓ⟩))=some (op,t,a,c))(G:AgF q.df ⟨β,κ,ℓ⟩ q.fr b0):∃ o,opOf q=some o∧∃ x y t', o.op=.binOp op t x y t'∧b0.eval x=a∧b0.eval y=c:=by
 cases ho:opOf q with
 | none=>rw [ho] at ha;cases ha
 | some o =>
  rw [ho] at ha
  refine⟨o,rfl,?_⟩
  simp only [Option.bind_some] at ha
  unfold binOf at ha
  split at ha
  ·rename_i op' t1 x y t' hop
   split at ha
   ·rename_i v u hv hu
    simp only [Option.map_some,Option.some.injEq,Prod.mk.injEq] at ha
    obtain⟨rfl,rfl,h3,h4⟩:=ha
    exact⟨x,y,t', hop,by rw [eval_eo G _ _ hv,h3],by rw [eval_eo G _ _ hu,h4]⟩
   ·cases ha
  ·cases ha
theorem len_at{t:TypeId}{n:Nat}(ha:((opOf q).bind (lenOf q.fr)).map (fun q=>(q.1,lsLen q.2))=some (t,some n))(G:AgF q.df ⟨β,κ,ℓ⟩ q.fr b0):∃ o,opOf q=some o∧∃ x ad c,o.op=.call ⟨.builtin .len,⟨[x]⟩,⟨[t]⟩⟩∧b0.eval x=.slice ad n c:=by
 cases ho:opOf q with
 | none=>rw [ho] at ha;cases ha
 | some o =>
  rw [ho] at ha
  refine⟨o,rfl,?_⟩
  have ha:(lenOf q.fr o).map _=some _:=ha
  unfold lenOf at ha
  split at ha
  ·rename_i x t0 hop
   cases hx:eoF q.fr x with
   | none=>rw [hx] at ha;cases ha
   | some v =>
    rw [hx] at ha
    simp only [Option.map_some,Option.some.injEq,Prod.mk.injEq] at ha
    obtain⟨rfl,e⟩:=ha
    obtain⟨b,c,rfl⟩:=lsLen_ex e
    exact⟨x,_,c,hop,eval_eo G x _ hx⟩
  ·cases ha
theorem ia_at{TS:TypeId}{b n c j:Nat}(ha:(iaOf q).map (fun q=>(q.1,q.2.1,q.2.2.1,q.2.2.2.1,q.2.2.2.2.map (SV.d ⟨β,κ,ℓ⟩)))=some (TS,b,n,c,some (.int .i64 j)))(G:AgF q.df ⟨β,κ,ℓ⟩ q.fr b0):∃ o,opOf q=some o∧∃ x y,o.op=.indexAddr TS x y∧b0.eval x=.slice (some ⟨β b,0,none⟩) n c∧b0.eval y=.int .i64 j:=by
 unfold iaOf at ha
 cases ho:opOf q with
 | none=>rw [ho] at ha;cases ha
 | some o =>
  rw [ho] at ha
  refine⟨o,rfl,?_⟩
  simp only at ha
  split at ha
  ·rename_i TS' x y hop
   split at ha
   ·rename_i b' n' c' hx
    simp only [Option.map_some,Option.some.injEq,Prod.mk.injEq] at ha
    obtain⟨rfl,rfl,rfl,rfl,hy⟩:=ha
    cases hv:eoF q.fr y with
    | none=>rw [hv] at hy;cases hy
    | some vy =>
     rw [hv,Option.map_some,Option.some.injEq] at hy
     exact⟨x,y,hop,eval_eo G x _ hx,(eval_eo G y _ hv).trans hy⟩
   ·cases ha
  ·cases ha
theorem ld_at{T:TypeId}{b off:Nat}(ha:(opOf q).bind (ldOf q.fr)=some (T,b,off))(G:AgF q.df ⟨β,κ,ℓ⟩ q.fr b0):∃ o,opOf q=some o∧∃ x,o.op=.load T x∧b0.eval x=.pointer (some ⟨β b,off,none⟩):=by
 cases ho:opOf q with
 | none=>rw [ho] at ha;cases ha
 | some o =>
  rw [ho] at ha
  refine⟨o,rfl,?_⟩
  have ha:ldOf q.fr o=some (T,b,off):=ha
  unfold ldOf at ha
  split at ha
  ·rename_i T' x hop
   split at ha
   ·rename_i b' off' hx
    cases ha
    exact⟨x,hop,eval_eo G x _ hx⟩
   ·cases ha
  ·cases ha
theorem hid_body{cs:List At}{C:Array Value}(h1:cs.length=1)(h2:contT cs=some C):bodyC cs=[]:=by
 cases cs with
 | nil=>rfl
 | cons a l =>
  have h5:ctA a=some C:=h2
  have:l=[]:=by simpa using h1
  show (if isT a then l else a::l)=[]
  rw [if_pos (ctA_T h5),this]
theorem lh_op{b off sz:Nat}{T:TypeId}{es:List Value}{C:Array Value}{bl:List Blk}{sf:List Nat}(I:Inv A S W κ Φ ⟨β,κ,ℓ⟩ bl sf w)(hC:(C.toList.drop off).take sz=es)(hb:(nthB bl b).map (fun k=>(k.cells.length,contT k.cells))=some (1,some C))(hl:ldB P T sz=true)(hes:es.length=sz)(h0:Nat.blt 0 sz=true){o:Oper}{ρ:Operand→Value}{x:Operand}(hop:o.op=.load T x)(hp:ρ x=.pointer (some ⟨β b,off,none⟩)):(execOp ρ o).run P w=.ok (.value (ldV P T es)) w:=by
 cases hk:nthB bl b with
 | none=>rw [hk] at hb;cases hb
 | some k =>
  rw [hk] at hb
  simp only [Option.map_some,Option.some.injEq,Prod.mk.injEq] at hb
  obtain⟨h3,h4⟩:=nthB_ex hk
  obtain⟨r,hB,_,_,hct⟩:=I.blk b k h3 h4
  obtain⟨r', rfl⟩:=hct C hb.2
  rw [hid_body hb.1 hb.2,List.map_nil,List.nil_append] at hB
  have hj' : off+sz≤C.toList.length:=take_ge (by rw [hC,hes]) (by simpa [Nat.blt_eq] using h0)
  unfold ldB at hl
  split at hl
  ·rename_i n' hn'
   rw [Bool.and_eq_true] at hl
   have e1:=Nat.eq_of_beq_eq_true hl.1
   subst e1
   unfold ldV
   cases hag:aggB P T with
   | true =>
    rw [if_pos rfl]
    obtain⟨d', k1,k2⟩:=aggB_ex hag
    refine ex_load_part T _ hop hp hB k1 (by cases d'<;>first|rfl|cases k2) n' hn' (by simp only [List.size_toArray,List.length_append];omega) ?_
    apply Array.toList_inj.1
    rw [Array.toList_extract,List.extract_eq_take_drop]
    show (((C.toList++r').drop off).take (off+n'-off))=es
    rw [List.drop_append_of_le_length (by omega),List.take_append_of_le_length (by rw [List.length_drop];omega),← hC]
    congr 1;omega
   | false =>
    rw [if_neg (by decide)]
    have h2:=hl.2
    rw [hag,Bool.false_or,Bool.and_eq_true] at h2
    have e1:=Nat.eq_of_beq_eq_true h2.1
    subst e1
    refine x_ldc hp hB hop h2.2 ?_
    have e3:(C.toList++r')[off]? = C.toList[off]?:=List.getElem?_append_left (by omega)
    show nth (C.toList++r') off=_
    rw [nth_eq,e3]
    cases es with
    | nil=>cases hes
    | cons e0 l =>
     show _=some e0
     have:(C.toList.drop off).take 1=[e0]:=by rw [hC];cases l with|nil=>rfl|cons=>simp at hes
     have h5:=congrArg (fun l=>l[0]?) this
     simpa [List.getElem?_take,List.getElem?_drop] using h5
  ·cases hl
theorem RunQ.bi{V:Value}(κs:List Value)(sh:SV){op:BinOp}{t:TypeId}{a c:Value}(h:∀ w o (ρ:Operand→Value) x y t', o.op=.binOp op t x y t'→ρ x=a→ρ y=c→(execOp ρ o).run P w=.ok (.value V) w)(rest:RunQ P S W (κ++κs) (Φ++[]) Q (aft (runQ P far m) sh sh.nk 0))(ha:∀ β ℓ,((opOf (runQ P far m)).bind (binOf (runQ P far m).fr)).map (fun q=>(q.1,q.2.1,q.2.2.1.d ⟨β,κ,ℓ⟩,q.2.2.2.d ⟨β,κ,ℓ⟩))=some (op,t,a,c):=by intro β ℓ;kernel_rfl)(hV:∀ β ℓ,V=sh.d ⟨β,κs,ℓ⟩:=by intro β ℓ;kernel_rfl)(h1:κs.all (·.oneCell')=true:=by kernel_rfl)(hf:fitB (runQ P far m) κ Φ=true:=by kernel_rfl)(hn:Nat.beq sh.nk κs.length=true:=by kernel_rfl):RunQ P S W κ Φ Q m :=
 RunQ.va κs sh (a:=fun o β ℓ ρ=>∃ x y t', o.op=.binOp op t x y t'∧ρ x=a∧ρ y=c) (fun β ℓ w o ρ I ⟨x,y,t', h1,h2,h3⟩=>h w o ρ x y t' h1 h2 h3) rest (fun β ℓ b G=>bin_at (ha β ℓ) G) hV h1 hf hn
theorem RunQ.ln(n:Nat)(t:TypeId)(rest:RunQ P S W (κ++[.int .i64 (n:Nat)]) (Φ++[]) Q (aft (runQ P far m) kb 1 0))(hu:(sliceE P t).isSome=true:=by kernel_rfl)(ha:((opOf (runQ P far m)).bind (lenOf (runQ P far m).fr)).map (fun q=>(q.1,lsLen q.2))=some (t,some n):=by kernel_rfl)(hf:fitB (runQ P far m) κ Φ=true:=by kernel_rfl):RunQ P S W κ Φ Q m :=
 RunQ.va (V:=.int .i64 (n:Nat)) [.int .i64 (n:Nat)] kb (a:=fun o β ℓ ρ=>∃ x ad c,o.op=.call ⟨.builtin .len,⟨[x]⟩,⟨[t]⟩⟩∧ρ x=.slice ad n c) (fun {A} β ℓ w o ρ I ⟨x,ad,c,ho,hx⟩=>x_lens hx ho hu) rest (fun β ℓ a G=>len_at ha G) (fun _ _=>rfl) rfl hf rfl
theorem RunQ.lh(b off sz:Nat)(T:TypeId)(es:List Value)(sh:SV)(C:Array Value)(hC:(C.toList.drop off).take sz=es)(rest:RunQ P S W (κ++es) (Φ++[]) Q (aft (runQ P far m) sh sh.nk 0))(ha:(opOf (runQ P far m)).bind (ldOf (runQ P far m).fr)=some (T,b,off):=by kernel_rfl)(hb:(nthB (runQ P far m).bl b).map (fun k=>(k.cells.length,contT k.cells))=some (1,some C):=by kernel_rfl)(hl:ldB P T sz=true:=by kernel_rfl)(hes:es.length=sz:=by kernel_rfl)(h0:Nat.blt 0 sz=true:=by kernel_rfl)(hV:∀ β ℓ,ldV P T es=sh.d ⟨β,es,ℓ⟩:=by intro β ℓ;kernel_rfl)(h1:es.all (·.oneCell')=true:=by kernel_rfl)(hf:fitB (runQ P far m) κ Φ=true:=by kernel_rfl)(hn:Nat.beq sh.nk es.length=true:=by kernel_rfl):RunQ P S W κ Φ Q m :=
 RunQ.va (V:=ldV P T es) es sh (a:=fun o β ℓ ρ=>∃ x,o.op=.load T x∧ρ x=.pointer (some ⟨β b,off,none⟩)) (fun {A} β ℓ w o ρ I ⟨x,hop,hp⟩=>lh_op I hC hb hl hes h0 hop hp) rest (fun β ℓ a G=>ld_at ha G) hV h1 hf hn
theorem RunQ.ia(b n c j sz:Nat)(TS:TypeId)(hj:j<n)(rest:RunQ P S W κ Φ Q (aftP b (sz*j) (runQ P far m)))(ha:∀ β ℓ,(iaOf (runQ P far m)).map (fun q=>(q.1,q.2.1,q.2.2.1,q.2.2.2.1,q.2.2.2.2.map (SV.d ⟨β,κ,ℓ⟩)))=some (TS,b,n,c,some (.int .i64 j)):=by intro β ℓ;kernel_rfl)(hsz:((sliceE P TS).bind P.info?).map (·.size)=some sz:=by kernel_rfl):RunQ P S W κ Φ Q m:=by
 refine runQ_sound far ⟨fun A0 E a w I G all rst hcur=>?_⟩
 obtain⟨β,κ', ℓ⟩:=E
 have e:=I.ek
 simp only at e
 subst e
 obtain⟨o,ho,x,y,hop,hx,hy⟩:=ia_at (ha β ℓ) G
 obtain⟨all', rst', hcur'⟩:=op_cur ho
 obtain⟨_,hg⟩:=guard_ok G hcur' ho
 rw [hcur'] at hcur
 injection hcur with e1 e2
 subst e1;subst e2
 refine qL_val hg (fun w' hw' => x_ixs sz hx hy hsz hop (by omega) (by omega) (k:=sz*j) (by rw [Int.toNat_natCast])) ?_
 have hq:aftP b (sz*j) (runQ P far m)={ runQ P far m with cur:=.ops all' rst', fr:=putF (runQ P far m).fr o.dst (some (.s (.o (.p b (sz*j))))) }:=by unfold aftP;rw [hcur']
 rw [hq] at rest
 exact rest.r _ _ _ w I (put_v G o.dst (.s (.o (.p b (sz*j))))) all' rst' rfl
def hsOf(m:MS):Option (TypeId×Nat×Nat×Nat×Option SV) :=
 match opOf m with
 | some o=>match o.op with
  | .slice t x none (some y) none=>match eoF m.fr x with
   | some (.s (.o (.ls b n c)))=>some (t,b,n,c,eoF m.fr y)
   | _=>none
  | _=>none
 | none=>none
theorem hs_at{TS:TypeId}{b n c j:Nat}(ha:(hsOf q).map (fun q=>(q.1,q.2.1,q.2.2.1,q.2.2.2.1,q.2.2.2.2.map (SV.d ⟨β,κ,ℓ⟩)))=some (TS,b,n,c,some (.int .i64 j)))(G:AgF q.df ⟨β,κ,ℓ⟩ q.fr b0):∃ o,opOf q=some o∧∃ x y,o.op=.slice TS x none (some y) none∧b0.eval x=.slice (some ⟨β b,0,none⟩) n c∧b0.eval y=.int .i64 j:=by
 unfold hsOf at ha
 cases ho:opOf q with
 | none=>rw [ho] at ha;cases ha
 | some o =>
  rw [ho] at ha
  refine⟨o,rfl,?_⟩
  simp only at ha
  split at ha
  ·rename_i TS' x y hop
   split at ha
   ·rename_i b' n' c' hx
    simp only [Option.map_some,Option.some.injEq,Prod.mk.injEq] at ha
    obtain⟨rfl,rfl,rfl,rfl,hy⟩:=ha
    cases hv:eoF q.fr y with
    | none=>rw [hv] at hy;cases hy
    | some vy =>
     rw [hv,Option.map_some,Option.some.injEq] at hy
     exact⟨x,y,hop,eval_eo G x _ hx,(eval_eo G y _ hv).trans hy⟩
   ·cases ha
  ·cases ha
theorem ex_hs{t:TypeId}{b n c j:Nat}{o:Oper}{ρ:Operand→Value}{x y:Operand}(hs:((sliceE P t).bind P.info?).isSome=true)(ho:o.op=.slice t x none (some y) none)(hx:ρ x=.slice (some ⟨b,0,none⟩) n c)(hy:ρ y=.int .i64 j)(hj:j≤c):(execOp ρ o).run P w=.ok (.value (.slice (some ⟨b,0,none⟩) j c)) w:=by
 have ha:Addr.add ⟨b,0,none⟩ 0=⟨b,0,none⟩:=by unfold Addr.add;split<;>simp_all
 cases he:sliceE P t with
 | none=>rw [he] at hs;cases hs
 | some el =>
  rw [he] at hs
  cases hq:P.info? el with
  | none=>rw [Option.bind_some,hq] at hs;cases hs
  | some it =>
   have hu:=sliceE_ex he
   have hb:(0:Int)≤(j:Int)∧(j:Int)≤(c:Int):=by omega
   unfold execOp
   simp [ho,hx,hy,Instr.sliceAt,Instr.slice,run_underlying hu,Instr.sliceBounds,Instr.sliceBound,asIntOf,hj,sizeOf,typeInfo,hq,ha,Result.andThen]
def aftH(b n c:Nat)(m:MS):MS :=
 match m.cur with
 | .ops all (o::rest)=>{ m with cur:=.ops all rest,fr:=putF m.fr o.dst (some (.s (.o (.ls b n c)))) }
 | _=>m
theorem Run.hs(b n c j:Nat)(TS:TypeId)(hj:j≤c)(rest:Run P S W κ Φ Q (aftH b j c (runM P far m)))(ha:∀ β ℓ,(hsOf (runM P far m)).map (fun q=>(q.1,q.2.1,q.2.2.1,q.2.2.2.1,q.2.2.2.2.map (SV.d ⟨β,κ,ℓ⟩)))=some (TS,b,n,c,some (.int .i64 j)):=by intro β ℓ;kernel_rfl)(hsz:((sliceE P TS).bind P.info?).isSome=true:=by kernel_rfl):Run P S W κ Φ Q m :=
 run_sound far <| Run.mk fun A0 E a w I G=>by
  obtain⟨β,κ', ℓ⟩:=E
  have e:=I.ek
  simp only at e
  subst e
  obtain⟨o,ho,x,y,hop,hx,hy⟩:=hs_at (ha β ℓ) G
  obtain⟨all,rst,hcur⟩:=op_cur ho
  obtain⟨_,hg⟩:=guard_ok G hcur ho
  rw [den_op hcur]
  refine wL_val hg (ex_hs hsz hop hx hy hj) ?_
  have hq:aftH b j c (runM P far m)={ runM P far m with cur:=.ops all rst,fr:=putF (runM P far m).fr o.dst (some (.s (.o (.ls b j c)))) }:=by unfold aftH;rw [hcur]
  rw [hq] at rest
  exact rest.r _ _ _ w I (put_v G o.dst (.s (.o (.ls b j c))))
theorem RunQ.hs(b n c j:Nat)(TS:TypeId)(hj:j≤c)(rest:RunQ P S W κ Φ Q (aftH b j c (runQ P far m)))(ha:∀ β ℓ,(hsOf (runQ P far m)).map (fun q=>(q.1,q.2.1,q.2.2.1,q.2.2.2.1,q.2.2.2.2.map (SV.d ⟨β,κ,ℓ⟩)))=some (TS,b,n,c,some (.int .i64 j)):=by intro β ℓ;kernel_rfl)(hsz:((sliceE P TS).bind P.info?).isSome=true:=by kernel_rfl):RunQ P S W κ Φ Q m:=by
 refine runQ_sound far ⟨fun A0 E a w I G all rst hcur=>?_⟩
 obtain⟨β,κ', ℓ⟩:=E
 have e:=I.ek
 simp only at e
 subst e
 obtain⟨o,ho,x,y,hop,hx,hy⟩:=hs_at (ha β ℓ) G
 obtain⟨all', rst', hcur'⟩:=op_cur ho
 obtain⟨_,hg⟩:=guard_ok G hcur' ho
 rw [hcur'] at hcur
 injection hcur with e1 e2
 subst e1;subst e2
 refine qL_val hg (fun w' hw' => ex_hs hsz hop hx hy hj) ?_
 have hq:aftH b j c (runQ P far m)={ runQ P far m with cur:=.ops all' rst', fr:=putF (runQ P far m).fr o.dst (some (.s (.o (.ls b j c)))) }:=by unfold aftH;rw [hcur']
 rw [hq] at rest
 exact rest.r _ _ _ w I (put_v G o.dst (.s (.o (.ls b j c)))) all' rst' rfl
end
end Go.Proofs.YtcdbmjnipaochaaGreat.Eng
