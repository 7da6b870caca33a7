import Derived.Test.YtcboejgklgnifaaGreatP05
set_option linter.unusedVariables false
set_option linter.unusedSimpArgs false
set_option maxHeartbeats 8000000
set_option maxRecDepth 100000
namespace Go.Proofs.YtcboejgklgnifaaGreat
open Go.RowKit Rgn Eng
variable {S:Nat→Prop} {W:World}
theorem eOfR(r:RG):Calls Tryz.prog 116 #[rgV r] W (Ret (VP.tup (NumP (gvm r)) (VP.is (.bool (gmay r)))) S W):=by
 cases c1:fmay r.re with
 | true=>cases c2:fmay r.im with
  | true =>
   refine Run.goP (S:=S) (Pack.nil.k (rgV r) (rgC r).toList (.s (.agg (ks 0 8)))) Tryz.func116 rfl ?_
   refine Run.dr ?_
   refine RunD.cR spRat (fun _ _ _ H=>eRatT r.re c1) ?_
   refine RunD.cR spRat (fun _ _ _ H=>eRatT r.im c2) ?_
   refine RunD.en ?_
   refine Run.np 0 (valM r.re) 129 .neq true (.inr ⟨rfl,rfl⟩) (fun c w=>by kernel_rfl) ?_
   refine Run.np 1 (valM r.im) 129 .neq true (.inr ⟨rfl,rfl⟩) (fun c w=>by kernel_rfl) ?_
   exact Run.rR (fun _ _ _ H=>⟨_,_,rfl,NumP.mk (RatP.n (H.f 0)) (RatP.n (H.f 1)),(by unfold gmay;rw [c1,c2];rfl)⟩)
  | false =>
   refine Run.goP (S:=S) (Pack.nil.k (rgV r) (rgC r).toList (.s (.agg (ks 0 8)))) Tryz.func116 rfl ?_
   refine Run.dr ?_
   refine RunD.cR spRat (fun _ _ _ H=>eRatT r.re c1) ?_
   refine RunD.cV [] (.s (.o (.c (.pointer none)))) (fun _ _ _ H=>eRatF r.im c2) ?_
   refine RunD.en ?_
   refine Run.np 0 (valM r.re) 129 .neq true (.inr ⟨rfl,rfl⟩) (fun c w=>by kernel_rfl) ?_
   refine Run.bi (op:=.neq) (t:=129) (a:=.pointer none) (c:=.pointer none) [] (cb false) (fun w o ρ x y t' ho hx hy=>ex_zn (fun w=>by kernel_rfl) ho hx hy) ?_
   exact Run.rR (fun _ _ _ H=>⟨_,_,rfl,NumP.mk (RatP.n (H.f 0)) (.inl ⟨rfl,valM_no c2⟩),(by unfold gmay;rw [c1,c2];rfl)⟩)
 | false=>cases c2:fmay r.im with
  | true =>
   refine Run.goP (S:=S) (Pack.nil.k (rgV r) (rgC r).toList (.s (.agg (ks 0 8)))) Tryz.func116 rfl ?_
   refine Run.dr ?_
   refine RunD.cV [] (.s (.o (.c (.pointer none)))) (fun _ _ _ H=>eRatF r.re c1) ?_
   refine RunD.cR spRat (fun _ _ _ H=>eRatT r.im c2) ?_
   refine RunD.en ?_
   refine Run.bi (op:=.neq) (t:=129) (a:=.pointer none) (c:=.pointer none) [] (cb false) (fun w o ρ x y t' ho hx hy=>ex_zn (fun w=>by kernel_rfl) ho hx hy) ?_
   exact Run.rR (fun _ _ _ H=>⟨_,_,rfl,NumP.mk (.inl ⟨rfl,valM_no c1⟩) (RatP.n (H.f 0)),(by unfold gmay;rw [c1,c2];rfl)⟩)
  | false =>
   refine Run.goP (S:=S) (Pack.nil.k (rgV r) (rgC r).toList (.s (.agg (ks 0 8)))) Tryz.func116 rfl ?_
   refine Run.dr ?_
   refine RunD.cV [] (.s (.o (.c (.pointer none)))) (fun _ _ _ H=>eRatF r.re c1) ?_
   refine RunD.cV [] (.s (.o (.c (.pointer none)))) (fun _ _ _ H=>eRatF r.im c2) ?_
   refine RunD.en ?_
   refine Run.bi (op:=.neq) (t:=129) (a:=.pointer none) (c:=.pointer none) [] (cb false) (fun w o ρ x y t' ho hx hy=>ex_zn (fun w=>by kernel_rfl) ho hx hy) ?_
   exact Run.rR (fun _ _ _ H=>⟨_,_,rfl,NumP.mk (.inl ⟨rfl,valM_no c1⟩) (.inl ⟨rfl,valM_no c2⟩),(by unfold gmay;rw [c1,c2];rfl)⟩)
theorem eWheelA(r:RCi)(p0:gmay r.b=false):Calls Tryz.prog 131 #[rciV r] W (RetV (.tuple #[.agg #[.pointer none,.pointer none,.pointer none,.pointer none],.bool false]) W):=by
 refine Run.goP (S:=Z0) (Pack.nil.k (rciV r) (rciC r).toList (.s (.agg (ks 0 16)))) Tryz.func131 rfl ?_
 refine Run.cR spNumK (fun _ _ _ H=>eOfR r.b) ?_
 refine Run.dr ?_
 refine RunD.cR spPtr (fun _ _ _ H=>eRatA r.a) ?_
 refine RunD.cR spPtr (fun _ _ _ H=>eRatA r.c) ?_
 refine RunD.en ?_
 refine Run.kn p0 ?_
 exact Run.rV rfl
theorem eWheelB(r:RCi)(p0:gmay r.b=true)(p1:fmay r.a=false):Calls Tryz.prog 131 #[rciV r] W (RetV (.tuple #[.agg #[.pointer none,.pointer none,.pointer none,.pointer none],.bool false]) W):=by
 refine Run.goP (S:=Z0) (Pack.nil.k (rciV r) (rciC r).toList (.s (.agg (ks 0 16)))) Tryz.func131 rfl ?_
 refine Run.cR spNumK (fun _ _ _ H=>eOfR r.b) ?_
 refine Run.dr ?_
 refine RunD.cV [] (.s (.o (.c (.pointer none)))) (fun _ _ _ H=>eRatF r.a p1) ?_
 refine RunD.cR spPtr (fun _ _ _ H=>eRatA r.c) ?_
 refine RunD.en ?_
 refine Run.kn p0 ?_
 refine Run.bi (op:=.eql) (t:=129) (a:=.pointer none) (c:=.pointer none) [] (cb true) (fun w o ρ x y t' ho hx hy=>ex_zz (fun w=>by kernel_rfl) ho hx hy) ?_
 exact Run.rV rfl
theorem eWheelC(r:RCi)(p0:gmay r.b=true)(p1:fmay r.a=true)(p2:fmay r.c=false):Calls Tryz.prog 131 #[rciV r] W (RetV (.tuple #[.agg #[.pointer none,.pointer none,.pointer none,.pointer none],.bool false]) W):=by
 refine Run.goP (S:=Z0) (Pack.nil.k (rciV r) (rciC r).toList (.s (.agg (ks 0 16)))) Tryz.func131 rfl ?_
 refine Run.cR spNumK (fun _ _ _ H=>eOfR r.b) ?_
 refine Run.dr ?_
 refine RunD.cR spRat (fun _ _ _ H=>eRatT r.a p1) ?_
 refine RunD.cV [] (.s (.o (.c (.pointer none)))) (fun _ _ _ H=>eRatF r.c p2) ?_
 refine RunD.en ?_
 refine Run.kn p0 ?_
 refine Run.np 2 (valM r.a) 129 .eql false (.inl ⟨rfl,rfl⟩) (fun c w=>by kernel_rfl) ?_
 refine Run.bi (op:=.eql) (t:=129) (a:=.pointer none) (c:=.pointer none) [] (cb true) (fun w o ρ x y t' ho hx hy=>ex_zz (fun w=>by kernel_rfl) ho hx hy) ?_
 exact Run.rV rfl
theorem eWheelP(c:Ci)(p0:cifits (rci c)=true)(p1:c.pos=false):Calls Tryz.prog 131 #[ciV c] W (RetV (.tuple #[.agg #[.pointer none,.pointer none,.pointer none,.pointer none],.bool false]) W):=by
 have f:=cifits_ht p0
 refine Run.goP (S:=Z0) (Pack.nil.k (ciV c) (ciC c).toList (.s (.agg (ks 0 16)))) Tryz.func131 rfl ?_
 refine Run.cR spNumK (fun _ _ _ H=>eOf c.b (and_3 p0).2.1) ?_
 refine Run.dr ?_
 refine RunD.cR spRat (fun _ _ _ H=>eRatOk c.a (and_3 p0).1) ?_
 refine RunD.cR spRat (fun _ _ _ H=>eRatOk c.c (and_3 p0).2.2) ?_
 refine RunD.en ?_
 refine Run.kn (b:=true) (c:=true) rfl ?_
 refine Run.np 2 (c.a) 129 .eql false (.inl ⟨rfl,rfl⟩) (fun c w=>by kernel_rfl) ?_
 refine Run.np 3 (c.c) 129 .eql false (.inl ⟨rfl,rfl⟩) (fun c w=>by kernel_rfl) ?_
 refine Run.cR spRat (fun _ _ _ H=>rgPow c (RingP.mk (H.f 2) (H.f 0) (H.f 1) (H.f 3)) (by omega)) ?_
 refine Run.cV [.int .i64 c.pow.num.sign] kb (fun _ _ _ H=>qSign c.pow (H.f 4)) ?_
 refine Run.ik .leq c.pow.num.sign 0 true (posT p1) ?_
 exact Run.rV rfl
theorem eWheelY(c:Ci)(p0:cifits (rci c)=true)(p1:c.pos=true):Calls Tryz.prog 131 #[ciV c] W (Ret (VP.tup (RingP c) (VP.is (.bool (decide (c.nrm=c))))) S W):=by
 have f:=cifits_ht p0
 have h1:=nrm_ht c
 have h2:=piv_ht c
 unfold Ci.hh Cx.hh at h2
 refine Run.goP (S:=S) (Pack.nil.k (ciV c) (ciC c).toList (.s (.agg (ks 0 16)))) Tryz.func131 rfl ?_
 refine Run.cR spNumK (fun _ _ _ H=>eOf c.b (and_3 p0).2.1) ?_
 refine Run.dr ?_
 refine RunD.cR spRat (fun _ _ _ H=>eRatOk c.a (and_3 p0).1) ?_
 refine RunD.cR spRat (fun _ _ _ H=>eRatOk c.c (and_3 p0).2.2) ?_
 refine RunD.en ?_
 refine Run.kn (b:=true) (c:=true) rfl ?_
 refine Run.np 2 (c.a) 129 .eql false (.inl ⟨rfl,rfl⟩) (fun c w=>by kernel_rfl) ?_
 refine Run.np 3 (c.c) 129 .eql false (.inl ⟨rfl,rfl⟩) (fun c w=>by kernel_rfl) ?_
 refine Run.cR spRat (fun _ _ _ H=>rgPow c (RingP.mk (H.f 2) (H.f 0) (H.f 1) (H.f 3)) (by omega)) ?_
 refine Run.cV [.int .i64 c.pow.num.sign] kb (fun _ _ _ H=>qSign c.pow (H.f 4)) ?_
 refine Run.ik .leq c.pow.num.sign 0 false (posF p1) ?_
 refine Run.dr ?_
 refine RunD.cR spRing (fun _ _ _ H=>rgNorm c (RingP.mk (H.f 2) (H.f 0) (H.f 1) (H.f 3)) (by omega) (pos_flat p1)) ?_
 refine RunD.cV [.bool (decide (c.nrm=c))] kb (fun _ _ _ H=>rgSame c.nrm c (RingP.mk (H.f 5) (H.f 6) (H.f 7) (H.f 8)) (RingP.mk (H.f 2) (H.f 0) (H.f 1) (H.f 3)) (by omega)) ?_
 refine RunD.en ?_
 exact Run.rR (fun _ _ _ H=>⟨_,_,rfl,(RingP.mk (H.f 2) (H.f 0) (H.f 1) (H.f 3)),rfl⟩)
end Go.Proofs.YtcboejgklgnifaaGreat
namespace Go.Proofs.YtcboejgklgnifaaGreat
open Go.RowKit Rgn Eng
variable {S:Nat→Prop} {W:World}
theorem ePlateY(c:Ci)(p0:cifits (rci c)=true):Calls Tryz.prog 147 #[ciV c] W (Ret (VP.tup (RingP c) (VP.is (.bool (decide (c.dot c=-1))))) S W):=by
 have f:=cifits_ht p0
 have h1:=dot_ht c c
 have z2:ht (Rat.divInt (-1:Int) (1:Int))=2:=by decide
 refine Run.goP (S:=S) (Pack.nil.k (ciV c) (ciC c).toList (.s (.agg (ks 0 16)))) Tryz.func147 rfl ?_
 refine Run.cR (spNumC true) (fun _ _ _ H=>eOf c.b (by first|omega|exact (and_3 p0).1|exact (and_3 p0).2.1|exact (and_3 p0).2.2|exact pos_flat p1)) ?_
 refine Run.dr ?_
 refine RunD.cR spRat (fun _ _ _ H=>eRatOk c.a (by first|omega|exact (and_3 p0).1|exact (and_3 p0).2.1|exact (and_3 p0).2.2|exact pos_flat p1)) ?_
 refine RunD.cR spRat (fun _ _ _ H=>eRatOk c.c (by first|omega|exact (and_3 p0).1|exact (and_3 p0).2.1|exact (and_3 p0).2.2|exact pos_flat p1)) ?_
 refine RunD.en ?_
 refine Run.np 2 (c.a) 129 .eql false (.inl ⟨rfl,rfl⟩) (fun c w=>by kernel_rfl) ?_
 refine Run.np 3 (c.c) 129 .eql false (.inl ⟨rfl,rfl⟩) (fun c w=>by kernel_rfl) ?_
 refine Run.dr ?_
 refine RunD.cR spRat (fun _ _ _ H=>dsBy c c (RingP.mk (H.f 2) (H.f 0) (H.f 1) (H.f 3)) (RingP.mk (H.f 2) (H.f 0) (H.f 1) (H.f 3)) (by first|omega|exact (and_3 p0).1|exact (and_3 p0).2.1|exact (and_3 p0).2.2|exact pos_flat p1)) ?_
 refine RunD.cR spRat (fun _ _ _ H=>qNewRat (-1) 1 (by decide) (by decide) (by decide) (by decide) (by decide)) ?_
 refine RunD.cV [.int .i64 (icmp ((c.dot c).num*((Rat.divInt (-1) 1).den:Int)) ((Rat.divInt (-1) 1).num*((c.dot c).den:Int)))] kb (fun _ _ _ H=>qCmp (c.dot c) (Rat.divInt (-1) 1) (H.f 4) (H.f 5) (by first|omega|exact (and_3 p0).1|exact (and_3 p0).2.1|exact (and_3 p0).2.2|exact pos_flat p1)) ?_
 refine RunD.bi [.bool ((icmp ((c.dot c).num*((Rat.divInt (-1) 1).den:Int)) ((Rat.divInt (-1) 1).num*((c.dot c).den:Int))) == 0)] kb (fun _ _ _ o1 o2 _ ho hx hy=>ex_icmp .eql 3 (icmp ((c.dot c).num*((Rat.divInt (-1) 1).den:Int)) ((Rat.divInt (-1) 1).num*((c.dot c).den:Int))) 0 (kk:=.i64) rfl ho hx hy) ?_
 refine RunD.en ?_
 exact Run.rR (fun _ _ _ H=>⟨_,_,rfl,(RingP.mk (H.f 2) (H.f 0) (H.f 1) (H.f 3)),plate_eq c⟩)
end Go.Proofs.YtcboejgklgnifaaGreat
namespace Go.Proofs.YtcboejgklgnifaaGreat
open Go.RowKit Rgn
theorem tupJ{φ:VP}{S:Nat→Prop}{w:World}{v:Value}(h:φ.p S v w):(VP.tup φ (VP.is (.bool false))).p S (.tuple #[v,.bool false]) w:=⟨_,_,rfl,h,rfl⟩
theorem ringJ0{S:Nat→Prop}{w:World}:(RingJ 0).p S (.agg #[.pointer none,.pointer none,.pointer none,.pointer none]) w:=⟨_,_,_,_,rfl,⟨_,rfl⟩,⟨_,rfl⟩,⟨_,rfl⟩,⟨_,rfl⟩⟩
theorem toJ{P:Program}{f:FuncId}{args:Array Value}{W:World}{φ ψ:VP}{b:Bool}{S:Nat→Prop}(h:Calls P f args W (Ret (VP.tup φ (VP.is (.bool b))) S W))(hb:b=false)(hj:∀ v w (S:Nat→Prop),φ.p S v w→ψ.p S v w):Calls P f args W (Ret (VP.tup ψ (VP.is (.bool false))) S W):=by
 subst hb
 exact h.mono fun _ _ ⟨v,h1,⟨a,b,h2,h3,h4⟩,h5⟩=>⟨v,h1,⟨a,b,h2,hj _ _ _ h3,h4⟩,h5⟩
theorem eWheelO{S:Nat→Prop}{W:World}(c:Ci)(p0:ciOk (rci c)=true):Calls Tryz.prog 131 #[ciV c] W (Ret (VP.tup (RingP c) (VP.is (.bool true))) S W):=by
 obtain⟨h1,h2,h3⟩:=ciOk_c p0
 have h:=eWheelY (S:=S) (W:=W) c h1 h2
 rw [decide_eq_true h3] at h
 exact h
theorem eWheelN{S:Nat→Prop}{W:World}(r:RCi)(p0:ciOk r=false):Calls Tryz.prog 131 #[rciV r] W (Ret (VP.tup (RingJ 0) (VP.is (.bool false))) S W):=by
 cases h1:gmay r.b with
 | false=>exact retOf (eWheelA r h1) fun _=>tupJ ringJ0
 | true =>
  cases h2:fmay r.a with
  | false=>exact retOf (eWheelB r h1 h2) fun _=>tupJ ringJ0
  | true =>
   cases h3:fmay r.c with
   | false=>exact retOf (eWheelC r h1 h2 h3) fun _=>tupJ ringJ0
   | true =>
    obtain⟨c,rfl,hf⟩:=ci_of h2 h1 h3
    cases h4:c.pos with
    | false=>exact retOf (eWheelP c hf h4) fun _=>tupJ ringJ0
    | true =>
     refine toJ (eWheelY c hf h4) (decide_eq_false fun e=>?_) fun _ _ _ h=>RingP.j h
     exact ciOk_no p0 ⟨c,rfl,hf,h4,e⟩
theorem ePlateO{S:Nat→Prop}{W:World}(c:Ci)(p0:dsOk (rci c)=true):Calls Tryz.prog 147 #[ciV c] W (Ret (VP.tup (RingP c) (VP.is (.bool true))) S W):=by
 obtain⟨h1,h2⟩:=dsOk_c p0
 have h:=ePlateY (S:=S) (W:=W) c h1
 rw [decide_eq_true h2] at h
 exact h
end Go.Proofs.YtcboejgklgnifaaGreat
namespace Go.Proofs.YtcboejgklgnifaaGreat
open Go.RowKit Rgn
theorem fmay_rf(q:Rat):fmay (rf q)=fits (rf q):=by unfold fmay;rw [fformed_rf,Bool.and_true]
theorem cmay_a{c:Ci}(h:cifits (rci c)=true):fmay (rf c.a)=true:=by rw [fmay_rf];exact (and_3 h).1
theorem cmay_b{c:Ci}(h:cifits (rci c)=true):gmay (rg c.b)=true:=by rw [gmay_rg];exact (and_3 h).2.1
theorem cmay_c{c:Ci}(h:cifits (rci c)=true):fmay (rf c.c)=true:=by rw [fmay_rf];exact (and_3 h).2.2
def Mb.chk(m:Mb):Int:=if ((!decide (m.c=Cx.ofInt (1:Int) (0:Int))&&(!decide (m.c=Cx.ofInt (0:Int) (0:Int)) || !decide (m.d=Cx.ofInt (1:Int) (0:Int))))||m.det.zero)=true then 2 else 0
def Ci.chk(c:Ci):Int:=if (decide (c.pow.num.sign≤0) || !decide (c.nrm=c))=true then 2 else 0
theorem over_eq(z:Cx)(x:Rat):Cx.mk (z.re/x) (z.im/x)=z.scale x⁻¹:=Cx.ext' (Rat.div_def _ _) (Rat.div_def _ _)
theorem nrmd_0{c:Ci}(h:(c.a.num.sign == 0)=false):Ci.mk (c.a/c.a) (c.b.scale c.a⁻¹) (c.c/c.a)=c.nrm:=by rw [Rat.div_def,Rat.div_def];exact nrm_0 h
theorem nrmd_1{c:Ci}(h:(c.a.num.sign == 0)=true)(h': (c.b.re.num.sign == 0)=false):Ci.mk (c.a/c.b.re) (c.b.scale c.b.re⁻¹) (c.c/c.b.re)=c.nrm:=by rw [Rat.div_def,Rat.div_def];exact nrm_1 h h'
theorem nrmd_2{c:Ci}(h:(c.a.num.sign == 0)=true)(h': (c.b.re.num.sign == 0)=true):Ci.mk (c.a/c.b.im) (c.b.scale c.b.im⁻¹) (c.c/c.b.im)=c.nrm:=by rw [Rat.div_def,Rat.div_def];exact nrm_2 h h'
theorem cchk_0{c:Ci}(h1:c.pos=true)(h2:c.nrm=c):c.chk=0:=by
 unfold Ci.chk
 rw [pos_le h1,decide_eq_true h2];rfl
theorem cchk_2{c:Ci}(h:¬ (c.pos=true∧c.nrm=c)):c.chk=2:=by
 unfold Ci.chk
 cases h1:c.pos with
 | false=>rw [pos_no h1];rfl
 | true=>rw [pos_le h1,decide_eq_false (fun e=>h ⟨h1,e⟩)];rfl
end Go.Proofs.YtcboejgklgnifaaGreat
namespace Go.Proofs.YtcboejgklgnifaaGreat
open Go.RowKit Rgn Eng
variable {S:Nat→Prop} {W:World}
theorem c11Pow(c:Ci)(p0:ht c.a+ht c.b.re+ht c.b.im+ht c.c≤1073741824):Calls Tryz.prog 143 #[ciV c] W (RetV (fV c.pow) W):=by
 have h1:=hc_norm c.b
 have h2:=ht_mul c.a c.c
 refine Run.goP (S:=Z0) (Pack.nil.k (ciV c) (ciC c).toList (.s (.agg (ks 0 16)))) Tryz.func143 rfl ?_
 refine Run.dr ?_
 refine RunD.cV (fC c.b.norm).toList (.s (.agg (ks 0 4))) (fun _ _ _ H=>cNorm c.b (by first|omega|(dsimp only at *;omega))) ?_
 refine RunD.cV (fC (c.a*c.c)).toList (.s (.agg (ks 0 4))) (fun _ _ _ H=>fTimes c.a c.c (by first|omega|(dsimp only at *;omega))) ?_
 refine RunD.cV (fC (c.b.norm-(c.a*c.c))).toList (.s (.agg (ks 0 4))) (fun _ _ _ H=>fMinus c.b.norm (c.a*c.c) (by first|omega|(dsimp only at *;omega))) ?_
 refine RunD.en ?_
 exact Run.rV rfl
theorem c11Over(z:Cx)(x:Rat)(p0:ht z.re+ht z.im+ht x≤1073741824)(p1:x≠0):Calls Tryz.prog 211 #[gV z,fV x] W (RetV (gV (z.scale x⁻¹)) W):=by
 refine Run.goP (S:=Z0) ((Pack.nil.k (gV z) (gC z).toList (.s (.agg (ks 0 8)))).k (fV x) (fC x).toList (.s (.agg (ks 0 4)))) Tryz.func211 rfl ?_
 refine Run.dr ?_
 refine RunD.cV (fC (z.re/x)).toList (.s (.agg (ks 0 4))) (fun _ _ _ H=>fOver z.re x (by first|omega|exact p1) p1) ?_
 refine RunD.cV (fC (z.im/x)).toList (.s (.agg (ks 0 4))) (fun _ _ _ H=>fOver z.im x (by first|omega|exact p1) p1) ?_
 refine RunD.en ?_
 exact Run.rV (congrArg gV (over_eq z x))
theorem c11Norm(a:Rat)(b:Cx)(c:Rat)(p0:ht a+ht b.re+ht b.im+ht c≤268435456)(p1:(Ci.mk a b c).flat=false):Calls Tryz.prog 144 #[fV a,gV b,fV c] W (RetV (ciV ((Ci.mk a b c).nrm)) W):=by
 refine Run.goP (S:=Z0) (((Pack.nil.k (fV a) (fC a).toList (.s (.agg (ks 0 4)))).k (gV b) (gC b).toList (.s (.agg (ks 0 8)))).k (fV c) (fC c).toList (.s (.agg (ks 0 4)))) Tryz.func144 rfl ?_
 refine Run.cV [.int .i64 a.num.sign] kb (fun _ _ _ H=>fSign a) ?_
 refine Run.ic a.num.sign 0 (a.num.sign == 0) ?_
 refine (Bool.eq_false_or_eq_true (a.num.sign == 0)).elim (fun c1=>?_) (fun c1=>?_)
 · refine Run.kn c1 ?_
   refine Run.cV [.int .i64 b.re.num.sign] kb (fun _ _ _ H=>fSign b.re) ?_
   refine Run.ic b.re.num.sign 0 (b.re.num.sign == 0) ?_
   refine (Bool.eq_false_or_eq_true (b.re.num.sign == 0)).elim (fun c2=>?_) (fun c2=>?_)
   · refine Run.kn c2 ?_
     refine Run.dr ?_
     refine RunD.cV (fC (a/b.im)).toList (.s (.agg (ks 0 4))) (fun _ _ _ H=>fOver a b.im (by first|omega|exact nz_2 (c:=Ci.mk a b c) p1 c1 c2|exact sgn_no c2|exact sgn_no c1) (by first|omega|exact nz_2 (c:=Ci.mk a b c) p1 c1 c2|exact sgn_no c2|exact sgn_no c1)) ?_
     refine RunD.cV (gC (b.scale b.im⁻¹)).toList (.s (.agg (ks 0 8))) (fun _ _ _ H=>c11Over b b.im (by first|omega|exact nz_2 (c:=Ci.mk a b c) p1 c1 c2|exact sgn_no c2|exact sgn_no c1) (by first|omega|exact nz_2 (c:=Ci.mk a b c) p1 c1 c2|exact sgn_no c2|exact sgn_no c1)) ?_
     refine RunD.cV (fC (c/b.im)).toList (.s (.agg (ks 0 4))) (fun _ _ _ H=>fOver c b.im (by first|omega|exact nz_2 (c:=Ci.mk a b c) p1 c1 c2|exact sgn_no c2|exact sgn_no c1) (by first|omega|exact nz_2 (c:=Ci.mk a b c) p1 c1 c2|exact sgn_no c2|exact sgn_no c1)) ?_
     refine RunD.en ?_
     exact Run.rV (congrArg ciV (nrmd_2 (c:=Ci.mk a b c) c1 c2))
   · refine Run.kn c2 ?_
     refine Run.dr ?_
     refine RunD.cV (fC (a/b.re)).toList (.s (.agg (ks 0 4))) (fun _ _ _ H=>fOver a b.re (by first|omega|exact nz_2 (c:=Ci.mk a b c) p1 c1 c2|exact sgn_no c2|exact sgn_no c1) (by first|omega|exact nz_2 (c:=Ci.mk a b c) p1 c1 c2|exact sgn_no c2|exact sgn_no c1)) ?_
     refine RunD.cV (gC (b.scale b.re⁻¹)).toList (.s (.agg (ks 0 8))) (fun _ _ _ H=>c11Over b b.re (by first|omega|exact nz_2 (c:=Ci.mk a b c) p1 c1 c2|exact sgn_no c2|exact sgn_no c1) (by first|omega|exact nz_2 (c:=Ci.mk a b c) p1 c1 c2|exact sgn_no c2|exact sgn_no c1)) ?_
     refine RunD.cV (fC (c/b.re)).toList (.s (.agg (ks 0 4))) (fun _ _ _ H=>fOver c b.re (by first|omega|exact nz_2 (c:=Ci.mk a b c) p1 c1 c2|exact sgn_no c2|exact sgn_no c1) (by first|omega|exact nz_2 (c:=Ci.mk a b c) p1 c1 c2|exact sgn_no c2|exact sgn_no c1)) ?_
     refine RunD.en ?_
     exact Run.rV (congrArg ciV (nrmd_1 (c:=Ci.mk a b c) c1 c2))
 · refine Run.kn c1 ?_
   refine Run.cV [.int .i64 a.num.sign] kb (fun _ _ _ H=>fSign a) ?_
   refine Run.ic a.num.sign 0 (a.num.sign == 0) ?_
   refine Run.kn c1 ?_
   refine Run.dr ?_
   refine RunD.cV (fC (a/a)).toList (.s (.agg (ks 0 4))) (fun _ _ _ H=>fOver a a (by first|omega|exact nz_2 (c:=Ci.mk a b c) p1 c1 _|exact sgn_no _|exact sgn_no c1) (by first|omega|exact nz_2 (c:=Ci.mk a b c) p1 c1 _|exact sgn_no _|exact sgn_no c1)) ?_
   refine RunD.cV (gC (b.scale a⁻¹)).toList (.s (.agg (ks 0 8))) (fun _ _ _ H=>c11Over b a (by first|omega|exact nz_2 (c:=Ci.mk a b c) p1 c1 _|exact sgn_no _|exact sgn_no c1) (by first|omega|exact nz_2 (c:=Ci.mk a b c) p1 c1 _|exact sgn_no _|exact sgn_no c1)) ?_
   refine RunD.cV (fC (c/a)).toList (.s (.agg (ks 0 4))) (fun _ _ _ H=>fOver c a (by first|omega|exact nz_2 (c:=Ci.mk a b c) p1 c1 _|exact sgn_no _|exact sgn_no c1) (by first|omega|exact nz_2 (c:=Ci.mk a b c) p1 c1 _|exact sgn_no _|exact sgn_no c1)) ?_
   refine RunD.en ?_
   exact Run.rV (congrArg ciV (nrmd_0 (c:=Ci.mk a b c) c1))
theorem c11ChkT(c:Ci)(p0:cifits (rci c)=true):Calls Tryz.prog 50 #[ciV c] W (RetV (.int .i64 c.chk) W):=by
 have f:=cifits_ht p0
 refine Run.goP (S:=Z0) (Pack.nil.k (ciV c) (ciC c).toList (.s (.agg (ks 0 16)))) Tryz.func50 rfl ?_
 refine Run.cV [.bool (fmay (rf c.a))] kb (fun _ _ _ H=>fMay (rf c.a)) ?_
 refine Run.kn (cmay_a p0) ?_
 refine Run.cV [.bool (gmay (rg c.b))] kb (fun _ _ _ H=>cMay (rg c.b)) ?_
 refine Run.kn (cmay_b p0) ?_
 refine Run.cV [.bool (fmay (rf c.c))] kb (fun _ _ _ H=>fMay (rf c.c)) ?_
 refine Run.kn (cmay_c p0) ?_
 refine Run.cV (fC c.pow).toList (.s (.agg (ks 0 4))) (fun _ _ _ H=>c11Pow c (by first|omega|exact pos_flat (by unfold Ci.pos;rw [_];rfl))) ?_
 refine Run.cV [.int .i64 c.pow.num.sign] kb (fun _ _ _ H=>fSign c.pow) ?_
 refine Run.ic c.pow.num.sign 0 (decide (c.pow.num.sign≤0)) ?_
 refine (Bool.eq_false_or_eq_true (decide (c.pow.num.sign≤0))).elim (fun c1=>?_) (fun c1=>?_)
 · refine Run.kn c1 ?_
   exact Run.rV (V' := .int .i64 (2)) ((by simp only [Ci.chk,c1];rfl))
 · refine Run.kn c1 ?_
   refine Run.dr ?_
   refine RunD.cV (ciC ((Ci.mk c.a c.b c.c).nrm)).toList (.s (.agg (ks 0 16))) (fun _ _ _ H=>c11Norm c.a c.b c.c (by first|omega|exact pos_flat (by unfold Ci.pos;rw [c1];rfl)) (by first|omega|exact pos_flat (by unfold Ci.pos;rw [c1];rfl))) ?_
   refine RunD.bi [.bool (!decide ((Ci.mk c.a c.b c.c).nrm=c))] kb (fun _ _ _ o1 o2 _ ho hx hy=>ex_neq_ci (r:=(rci ((Ci.mk c.a c.b c.c).nrm))) (q:=(rci c)) o1 o2 ho hx hy (rci_dec ((Ci.mk c.a c.b c.c).nrm) c)) ?_
   refine RunD.en ?_
   refine (Bool.eq_false_or_eq_true (!decide ((Ci.mk c.a c.b c.c).nrm=c))).elim (fun c2=>?_) (fun c2=>?_)
   · refine Run.kn c2 ?_
     exact Run.rV (V' := .int .i64 (2)) ((by simp only [Ci.chk,c1,c2];rfl))
   · refine Run.kn c2 ?_
     exact Run.rV (V' := .int .i64 (0)) ((by simp only [Ci.chk,c1,c2];rfl))
end Go.Proofs.YtcboejgklgnifaaGreat
namespace Go.Proofs.YtcboejgklgnifaaGreat
open Go.RowKit Rgn
variable {S:Nat→Prop} {W:World}
theorem c11ChkA(r:RCi)(p0:(fmay r.a&&gmay r.b&&fmay r.c)=false):Calls Tryz.prog 50 #[rciV r] W (RetV (.int .i64 2) W):=by
 have bel:=b0 W
 go_enter Tryz.func50,Tryz.ntmps50
 refine gs 2 (Amb Z0 W) fun _ K1=>?_
 refine .bx rfl (fun H=>H.v 0 (rciV r)) ?_
 refine .mc rfl ?_
 refine .dk (fun u=>rciV r::u 0::u 1::us 31) K1 bel fun u1 w1 D bel=>?_
 obtain⟨b2,E1_0,A2,B2⟩:=D.nw 0
 have E1_1:=D.q 1
 clear D
 refine wp_seq_k fun _ K3=>?_
 rcases Bool.eq_false_or_eq_true (fmay r.a) with c5|c5
 ·
  rcases Bool.eq_false_or_eq_true (gmay r.b) with c6|c6
  ·
   rcases Bool.eq_false_or_eq_true (fmay r.c) with c7|c7
   ·
    exact absurd p0 (by simp [c5,c6,c7])
   ·
    refine gs 22 (Amb Z0 W) fun _ K4=>?_
    refine .fz rfl 1 0 E1_0 ?_
    refine .lp rfl 0 (rfC r.a) B2 ?_
    refine .cK rfl (V:=.bool true) Tryz.func44 (fun H=>⟨_,ar1 (H.g 4 1),reV (congrArg Value.bool c5) (fMay _)⟩) ?_
    refine .e rfl (V:=.bool false) (fun H=>x_not (H.g 5 2)) ?_
    refine .mv rfl 3 ?_
    refine .fz rfl 1 4 E1_0 ?_ (hg:=gq 4 rfl)
    refine .lp rfl 5 (rgC r.b) B2 ?_ (hg:=gq 4 rfl)
    refine .cK rfl (V:=.bool true) Tryz.func43 (fun H=>⟨_,ar1 (H.g 9 6),reV (congrArg Value.bool c6) (cMay _)⟩) ?_ (hg:=gq 4 rfl)
    refine .e rfl (V:=.bool false) (fun H=>x_not (H.g 10 7)) ?_ (hg:=gq 4 rfl)
    refine .e rfl (fun H=>x_pkF (H.g 7 4) (H.g 11 8)) ?_
    refine .mv rfl 9 ?_
    refine .fz rfl 1 12 E1_0 ?_ (hg:=gq 10 rfl)
    refine .lp rfl 11 (rfC r.c) B2 ?_ (hg:=gq 10 rfl)
    refine .cK rfl (V:=.bool false) Tryz.func44 (fun H=>⟨_,ar1 (H.g 15 12),reV (congrArg Value.bool c7) (fMay _)⟩) ?_ (hg:=gq 10 rfl)
    refine .e rfl (V:=.bool true) (fun H=>x_not (H.g 16 13)) ?_ (hg:=gq 10 rfl)
    refine .e rfl (fun H=>x_pkF (H.g 13 10) (H.g 17 14)) ?_
    refine .mv rfl 15 ?_
    refine .sk rfl 16 ?_
    refine .sk rfl 16 ?_
    refine .sk rfl 16 ?_
    refine .sk rfl 16 ?_
    refine .e rfl (fun H=>x_pkT (H.g 19 16) (H.c _)) ?_
    refine .dk (fun u=>rciV r::u1 0::u1 1::sq u 0 22 (us 9)) K4 bel fun u2 w2 D bel=>?_
    have E2_21:=D.q 21
    replace B2:=D.k B2
    clear D
    refine wp_cond_true (by exact E2_21) ?_
    refine gs 1 (Amb Z0 W) fun _ K8=>?_
    refine .mc rfl ?_
    refine .dk (fun u=>rciV r::u1 0::u 0::sq u2 0 22 (us 9)) K8 bel fun u3 w3 D bel=>?_
    have E3_0:=D.q 0
    clear D
    exact wp_ret (rt rfl E3_0 rfl bel)
  ·
   refine gs 22 (Amb Z0 W) fun _ K4=>?_
   refine .fz rfl 1 0 E1_0 ?_
   refine .lp rfl 0 (rfC r.a) B2 ?_
   refine .cK rfl (V:=.bool true) Tryz.func44 (fun H=>⟨_,ar1 (H.g 4 1),reV (congrArg Value.bool c5) (fMay _)⟩) ?_
   refine .e rfl (V:=.bool false) (fun H=>x_not (H.g 5 2)) ?_
   refine .mv rfl 3 ?_
   refine .fz rfl 1 4 E1_0 ?_ (hg:=gq 4 rfl)
   refine .lp rfl 5 (rgC r.b) B2 ?_ (hg:=gq 4 rfl)
   refine .cK rfl (V:=.bool false) Tryz.func43 (fun H=>⟨_,ar1 (H.g 9 6),reV (congrArg Value.bool c6) (cMay _)⟩) ?_ (hg:=gq 4 rfl)
   refine .e rfl (V:=.bool true) (fun H=>x_not (H.g 10 7)) ?_ (hg:=gq 4 rfl)
   refine .e rfl (fun H=>x_pkF (H.g 7 4) (H.g 11 8)) ?_
   refine .mv rfl 9 ?_
   refine .sk rfl 10 ?_
   refine .sk rfl 10 ?_
   refine .sk rfl 10 ?_
   refine .sk rfl 10 ?_
   refine .e rfl (fun H=>x_pkT (H.g 13 10) (H.c _)) ?_
   refine .mv rfl 15 ?_
   refine .sk rfl 16 ?_
   refine .sk rfl 16 ?_
   refine .sk rfl 16 ?_
   refine .sk rfl 16 ?_
   refine .e rfl (fun H=>x_pkT (H.g 19 16) (H.c _)) ?_
   refine .dk (fun u=>rciV r::u1 0::u1 1::sq u 0 22 (us 9)) K4 bel fun u2 w2 D bel=>?_
   have E2_21:=D.q 21
   replace B2:=D.k B2
   clear D
   refine wp_cond_true (by exact E2_21) ?_
   refine gs 1 (Amb Z0 W) fun _ K9=>?_
   refine .mc rfl ?_
   refine .dk (fun u=>rciV r::u1 0::u 0::sq u2 0 22 (us 9)) K9 bel fun u3 w3 D bel=>?_
   have E3_0:=D.q 0
   clear D
   exact wp_ret (rt rfl E3_0 rfl bel)
 ·
  refine gs 22 (Amb Z0 W) fun _ K4=>?_
  refine .fz rfl 1 0 E1_0 ?_
  refine .lp rfl 0 (rfC r.a) B2 ?_
  refine .cK rfl (V:=.bool false) Tryz.func44 (fun H=>⟨_,ar1 (H.g 4 1),reV (congrArg Value.bool c5) (fMay _)⟩) ?_
  refine .e rfl (V:=.bool true) (fun H=>x_not (H.g 5 2)) ?_
  refine .mv rfl 3 ?_
  refine .sk rfl 4 ?_
  refine .sk rfl 4 ?_
  refine .sk rfl 4 ?_
  refine .sk rfl 4 ?_
  refine .e rfl (fun H=>x_pkT (H.g 7 4) (H.c _)) ?_
  refine .mv rfl 9 ?_
  refine .sk rfl 10 ?_
  refine .sk rfl 10 ?_
  refine .sk rfl 10 ?_
  refine .sk rfl 10 ?_
  refine .e rfl (fun H=>x_pkT (H.g 13 10) (H.c _)) ?_
  refine .mv rfl 15 ?_
  refine .sk rfl 16 ?_
  refine .sk rfl 16 ?_
  refine .sk rfl 16 ?_
  refine .sk rfl 16 ?_
  refine .e rfl (fun H=>x_pkT (H.g 19 16) (H.c _)) ?_
  refine .dk (fun u=>rciV r::u1 0::u1 1::sq u 0 22 (us 9)) K4 bel fun u2 w2 D bel=>?_
  have E2_21:=D.q 21
  replace B2:=D.k B2
  clear D
  refine wp_cond_true (by exact E2_21) ?_
  refine gs 1 (Amb Z0 W) fun _ K10=>?_
  refine .mc rfl ?_
  refine .dk (fun u=>rciV r::u1 0::u 0::sq u2 0 22 (us 9)) K10 bel fun u3 w3 D bel=>?_
  have E3_0:=D.q 0
  clear D
  exact wp_ret (rt rfl E3_0 rfl bel)
end Go.Proofs.YtcboejgklgnifaaGreat
namespace Go.Proofs.YtcboejgklgnifaaGreat
open Go.RowKit Rgn
variable {W:World}
theorem c11ChkO(c:Ci)(p0:ciOk (rci c)=true):Calls Tryz.prog 50 #[ciV c] W (RetV (.int .i64 0) W):=by
 obtain⟨h1,h2,h3⟩:=ciOk_c p0
 exact reV (congrArg (Value.int .i64) (cchk_0 h2 h3)) (c11ChkT c h1)
theorem c11ChkN(r:RCi)(p0:ciOk r=false):Calls Tryz.prog 50 #[rciV r] W (RetV (.int .i64 2) W):=by
 cases h:(fmay r.a&&gmay r.b&&fmay r.c) with
 | false=>exact c11ChkA r h
 | true =>
  obtain⟨h1,h2,h3⟩:=and_3 h
  obtain⟨c,rfl,hf⟩:=ci_of h1 h2 h3
  exact reV (congrArg (Value.int .i64) (cchk_2 fun e=>ciOk_no p0 ⟨c,rfl,hf,e.1,e.2⟩)) (c11ChkT c hf)
end Go.Proofs.YtcboejgklgnifaaGreat
namespace Go.Proofs.YtcboejgklgnifaaGreat
open Go.RowKit Rgn
def Mb.isB(m:Mb):Cx:=if m.c.zero=true then (if ((Cx.ofInt (1:Int) (0:Int)).sub m.a.conj).zero=true then Cx.ofInt (0:Int) (1:Int) else (Cx.ofInt (1:Int) (0:Int)).sub m.a.conj) else m.d
def Mb.isC(m:Mb):Cx:=if m.c.zero=true then (m.isB.mul m.b).neg else m.b.neg
def Mb.isA(m:Mb):Rat:=if m.c.zero=true then ((0:Int):Rat) else ((1:Int):Rat)
def Mb.isK(m:Mb):Ci:=⟨m.isA,m.isB,m.isC.re⟩
def Mb.isOk(m:Mb):Bool:=m.t&&(m.isC.im.num.sign == 0)&&m.isK.pos&&decide (m.isK.nrm.over.nrm=m)
def Mb.isW(m:Mb):RCi:=if m.isOk=true then rci m.isK.nrm else rzCi
section
variable {m:Mb} {k:Ci} {q:Rat}
end
@[reducible] def Cx.inv(k:Cx):Cx:=k.conj.scale k.norm⁻¹
theorem inv_one{k:Cx}(h:k.zero=false):k.inv.mul k=⟨1,0⟩:=by
 have hn:k.norm≠0:=zero_norm h
 have e:(k.re*k.re+k.im*k.im)*k.norm⁻¹=1:=Rat.mul_inv_cancel _ hn
 exact Cx.ext' (by show k.re*k.norm⁻¹*k.re - -k.im*k.norm⁻¹*k.im=1;grind) (by show k.re*k.norm⁻¹*k.im+-k.im*k.norm⁻¹*k.re=0;grind)
theorem inv_zero{k:Cx}(h:k.zero=false):k.inv.zero=false:=by
 cases e:k.inv.zero with
 | false=>rfl
 | true =>
  have h1:=inv_one h
  rw [zero_iff.1 e] at h1
  have h2:(0:Rat)*k.re-0*k.im=1:=congrArg Cx.re h1
  grind
@[reducible] def Mb.by(m:Mb)(j:Cx):Mb:=⟨m.a.mul j,m.b.mul j,m.c.mul j,m.d.mul j,m.t⟩
def Ci.at(c:Ci)(v w:Cx):Rat:=c.a*v.norm+c.c*w.norm+(((c.b.mul v).mul w.conj).re+((c.b.mul v).mul w.conj).re)
def Ci.mid(c:Ci)(n:Mb):Cx:=((((Cx.mk c.a 0).mul (n.a.mul n.b.conj)).add ((c.b.mul n.a).mul n.d.conj)).add ((c.b.mul n.b).conj.mul n.c)).add ((Cx.mk c.c 0).mul (n.c.mul n.d.conj))
def Ci.im(c:Ci)(n:Mb)(t:Bool):Ci:=⟨c.at n.a n.c,cjC t (c.mid n),c.at n.b n.d⟩
theorem sq_nn(x:Rat):0≤x*x:=by
 rcases Rat.le_total (a:=0) (b:=x) with g|g
 ·exact Rat.mul_nonneg g g
 ·have g' : 0≤-x:=by grind
  have:=Rat.mul_nonneg g' g'
  grind
def HB(z:Cx)(n:Nat):Prop:=ht z.re≤n∧ht z.im≤n
section
variable {x y z:Cx} {p q:Rat} {a b n:Nat}
theorem HB.two(h1:ht z.re≤a)(h2:ht z.im≤b)(n:Nat)(h:(Nat.ble a n&&Nat.ble b n)=true:=by decide):HB z n:=by
 simp only [Bool.and_eq_true,Nat.ble_eq] at h
 exact⟨Nat.le_trans h1 h.1,Nat.le_trans h2 h.2⟩
theorem HB.mul(h1:HB x a)(h2:HB y b)(n:Nat)(h:2*a+2*b≤n:=by decide):HB (x.mul y) n:=by
 have:=hc_mul x y
 unfold HB at *;omega
theorem HB.add(h1:HB x a)(h2:HB y b)(n:Nat)(h:a+b≤n:=by decide):HB (x.add y) n:=by
 have:=hc_add x y
 unfold HB at *;omega
theorem HB.sub(h1:HB x a)(h2:HB y b)(n:Nat)(h:a+b≤n:=by decide):HB (x.sub y) n:=by
 have:=hc_sub x y
 unfold HB at *;omega
theorem HB.div(h1:HB x a)(h2:HB y b)(n:Nat)(h:6*a+6*b≤n:=by decide):HB (x.div y) n:=by
 have:=hc_div x y
 unfold HB at *;omega
theorem HB.neg(h1:HB x a):HB x.neg a:=by have:=hc_neg x;unfold HB at *;omega
theorem HB.conj(h1:HB x a):HB x.conj a:=by have:=hc_conj x;unfold HB at *;omega
theorem HB.scale(h1:HB x a)(h2:ht p≤b)(n:Nat)(h:a+b≤n:=by decide):HB (x.scale p) n:=by
 have:=hc_scale x p
 unfold HB at *;omega
theorem HB.norm(h1:HB x a)(n:Nat)(h:4*a≤n:=by decide):ht x.norm≤n:=by
 have:=hc_norm x
 unfold HB at *;omega
theorem hb_add(h1:ht p≤a)(h2:ht q≤b)(n:Nat)(h:a+b≤n:=by decide):ht (p+q)≤n:=Nat.le_trans (ht_add p q) (Nat.le_trans (Nat.add_le_add h1 h2) h)
theorem hb_sub(h1:ht p≤a)(h2:ht q≤b)(n:Nat)(h:a+b≤n:=by decide):ht (p-q)≤n:=Nat.le_trans (ht_sub p q) (Nat.le_trans (Nat.add_le_add h1 h2) h)
theorem hb_mul(h1:ht p≤a)(h2:ht q≤b)(n:Nat)(h:a+b≤n:=by decide):ht (p*q)≤n:=Nat.le_trans (ht_mul p q) (Nat.le_trans (Nat.add_le_add h1 h2) h)
theorem hb_neg(h1:ht p≤a):ht (-p)≤a:=by rw [ht_neg];exact h1
theorem hb_ci{c:Ci}(h:ht c.a+ht c.b.re+ht c.b.im+ht c.c≤n):ht c.a≤n∧HB c.b n∧ht c.c≤n:=by unfold HB;omega
end
end Go.Proofs.YtcboejgklgnifaaGreat
namespace Go.Proofs.YtcboejgklgnifaaGreat
open Go.RowKit Rgn Eng
def idxF:List Bool→Int→Int
 | [],_=>-1
 | b::l,k=>if b then idxF l (k+1) else k
theorem idxF_all(l:List Bool):decide ((0:Int)≤idxF l 0) = !(l.all id):=by
 have key:∀ (l:List Bool) (k:Int),0≤k→decide ((0:Int)≤idxF l k) = !(l.all id):=by
  intro l
  induction l with
  | nil=>intro k _;rfl
  | cons b l ih =>
   intro k hk
   cases b with
   | true=>exact ih (k+1) (by omega)
   | false=>show decide ((0:Int)≤k)=true;exact decide_eq_true hk
 exact key l 0 (Int.le_refl _)
def mn3(xa xb xc ya yb yc za zb zc:Rat):Rat:=(0+(yb*zc-yc*zb)*xa)+(yc*za-ya*zc)*xb+(ya*zb-yb*za)*xc
theorem mn3_hb{xa xb xc ya yb yc za zb zc:Rat}(h1:ht xa≤40000)(h2:ht xb≤40000)(h3:ht xc≤40000)(h4:ht ya≤40000)(h5:ht yb≤40000)(h6:ht yc≤40000)(h7:ht za≤40000)(h8:ht zb≤40000)(h9:ht zc≤40000):ht (mn3 xa xb xc ya yb yc za zb zc)≤600002 :=
 hb_add (hb_add (hb_add (Nat.le_of_eq ht_zero) (hb_mul (hb_sub (hb_mul h5 h9 80000) (hb_mul h6 h8 80000) 160000) h1 200000) 200002) (hb_mul (hb_sub (hb_mul h6 h7 80000) (hb_mul h4 h9 80000) 160000) h2 200000) 400002) (hb_mul (hb_sub (hb_mul h4 h8 80000) (hb_mul h5 h7 80000) 160000) h3 200000) 600002
def Ci.acr(x y z:Ci):Ci :=
 ⟨-(mn3 x.a x.b.re x.b.im y.a y.b.re y.b.im z.a z.b.re z.b.im),((⟨mn3 x.a x.c x.b.im y.a y.c y.b.im z.a z.c z.b.im,0⟩:Cx).add ((⟨-(mn3 x.a x.c x.b.re y.a y.c y.b.re z.a z.c z.b.re),0⟩:Cx).mul (Cx.ofInt 0 1))).scale (Rat.divInt (-1) 2),mn3 x.c x.b.re x.b.im y.c y.b.re y.b.im z.c z.b.re z.b.im⟩
theorem acr_ht{x y z:Ci}(h1:ht x.a+ht x.b.re+ht x.b.im+ht x.c≤40000)(h2:ht y.a+ht y.b.re+ht y.b.im+ht y.c≤40000)(h3:ht z.a+ht z.b.re+ht z.b.im+ht z.c≤40000):ht (Ci.acr x y z).a+ht (Ci.acr x y z).b.re+ht (Ci.acr x y z).b.im+ht (Ci.acr x y z).c≤4800036:=by
 obtain⟨a1,b1,c1⟩:=hb_ci h1
 obtain⟨a2,b2,c2⟩:=hb_ci h2
 obtain⟨a3,b3,c3⟩:=hb_ci h3
 have k0:=mn3_hb a1 c1 b1.2 a2 c2 b2.2 a3 c3 b3.2
 have k1:=hb_neg (mn3_hb a1 c1 b1.1 a2 c2 b2.1 a3 c3 b3.1)
 have k2:=HB.mul (HB.two (z:=Cx.mk (-(mn3 x.a x.c x.b.re y.a y.c y.b.re z.a z.c z.b.re)) 0) k1 (Nat.le_of_eq ht_zero) 600002) (⟨by decide,by decide⟩:HB (Cx.ofInt 0 1) 3) 1200010
 have k3:=HB.add (HB.two (z:=Cx.mk (mn3 x.a x.c x.b.im y.a y.c y.b.im z.a z.c z.b.im) 0) k0 (Nat.le_of_eq ht_zero) 600002) k2 1800012
 have k4:=hb_neg (mn3_hb a1 b1.1 b1.2 a2 b2.1 b2.2 a3 b3.1 b3.2)
 have k5:=HB.scale k3 (by decide:ht (Rat.divInt (-1) 2)≤4) 1800016
 have k6:=mn3_hb c1 b1.1 b1.2 c2 b2.1 b2.2 c3 b3.1 b3.2
 exact Nat.le_trans (Nat.add_le_add (Nat.add_le_add (Nat.add_le_add k4 k5.1) k5.2) k6) (by decide)
theorem plus_ht(x y:Ci):ht (x.plus y).a+ht (x.plus y).b.re+ht (x.plus y).b.im+ht (x.plus y).c≤(ht x.a+ht x.b.re+ht x.b.im+ht x.c)+(ht y.a+ht y.b.re+ht y.b.im+ht y.c):=by
 have h1:ht (x.plus y).a≤ht x.a+ht y.a:=ht_add x.a y.a
 have h2:ht (x.plus y).b.re≤ht x.b.re+ht y.b.re:=ht_add x.b.re y.b.re
 have h3:ht (x.plus y).b.im≤ht x.b.im+ht y.b.im:=ht_add x.b.im y.b.im
 have h4:ht (x.plus y).c≤ht x.c+ht y.c:=ht_add x.c y.c
 omega
theorem out_hs(x:Ci):ht x.out.a+ht x.out.b.re+ht x.out.b.im+ht x.out.c=ht x.a+ht x.b.re+ht x.b.im+ht x.c:=by
 obtain⟨h1,h2,h3,h4⟩:=out_ht x;omega
def fstN:List Int→Bool
 | []=>false
 | n::l=>if (n != 0)=true then decide (n<0) else fstN l
def Ci.ahd(a b:Ci):Bool:=fstN [-(icmp (a.a.num*(b.a.den:Int)) (b.a.num*(a.a.den:Int))),(a.b.sub b.b).re.num.sign,(a.b.sub b.b).im.num.sign,icmp (a.c.num*(b.c.den:Int)) (b.c.num*(a.c.den:Int))]
def Ci.f4s(a b c:Ci):Ci:=(a.plus b).plus c
def Ci.f4x(a b c:Ci):Ci:=(Ci.f4s a b c).plus (Ci.acr a b c)
def Ci.f4y(a b c:Ci):Ci:=(Ci.f4s a b c).plus (Ci.acr a b c).out
def Ci.f4p(a b c:Ci):Ci:=if (Ci.f4y a b c).ahd (Ci.f4x a b c)=true then Ci.f4y a b c else Ci.f4x a b c
def Ci.f4q(a b c:Ci):Ci:=if (Ci.f4y a b c).ahd (Ci.f4x a b c)=true then Ci.f4x a b c else Ci.f4y a b c
def Ci.f4b(a b c:Ci):Bool:=(cierr (Ci.f4p a b c) != 0)||(cierr (Ci.f4q a b c) != 0)
def Ci.f4P(a b c:Ci):RCi:=if Ci.f4b a b c=true then rzCi else cicut (Ci.f4p a b c)
def Ci.f4Q(a b c:Ci):RCi:=if Ci.f4b a b c=true then rzCi else cicut (Ci.f4q a b c)
def Ci.f4E(a b c:Ci):Int:=if Ci.f4b a b c=true then 4 else 0
def Ci.all3(a b c:Ci):Bool:=[b.touch a].all id&&[c.touch a,c.touch b].all id
theorem f4_ht{x y z:Ci}(h1:ht x.a+ht x.b.re+ht x.b.im+ht x.c≤40000)(h2:ht y.a+ht y.b.re+ht y.b.im+ht y.c≤40000)(h3:ht z.a+ht z.b.re+ht z.b.im+ht z.c≤40000):ht (Ci.f4s x y z).a+ht (Ci.f4s x y z).b.re+ht (Ci.f4s x y z).b.im+ht (Ci.f4s x y z).c≤120000∧ht (Ci.f4x x y z).a+ht (Ci.f4x x y z).b.re+ht (Ci.f4x x y z).b.im+ht (Ci.f4x x y z).c≤5000000∧ht (Ci.f4y x y z).a+ht (Ci.f4y x y z).b.re+ht (Ci.f4y x y z).b.im+ht (Ci.f4y x y z).c≤5000000:=by
 have g:=acr_ht h1 h2 h3
 have k1:=plus_ht x y
 have k2:=plus_ht (x.plus y) z
 have k3:=plus_ht (Ci.f4s x y z) (Ci.acr x y z)
 have k4:=plus_ht (Ci.f4s x y z) (Ci.acr x y z).out
 have k5:=out_hs (Ci.acr x y z)
 unfold Ci.f4x Ci.f4y
 refine⟨?_,?_,?_⟩<;>(unfold Ci.f4s at *;omega)
section
variable {a b c:Ci}
theorem fo_e(e:Ci.f4b a b c=true):Value.tuple #[rciV rzCi,rciV rzCi,.int .i64 4]=.tuple #[rciV (Ci.f4P a b c),rciV (Ci.f4Q a b c),.int .i64 (Ci.f4E a b c)]:=by
 unfold Ci.f4P Ci.f4Q Ci.f4E;rw [if_pos e,if_pos e,if_pos e]
theorem fo_1(h:(Ci.f4y a b c).ahd (Ci.f4x a b c)=true)(e:(cierr (Ci.f4y a b c) != 0)=true):Value.tuple #[rciV rzCi,rciV rzCi,.int .i64 4]=.tuple #[rciV (Ci.f4P a b c),rciV (Ci.f4Q a b c),.int .i64 (Ci.f4E a b c)] :=
 fo_e (by unfold Ci.f4b Ci.f4p;rw [if_pos h,e];rfl)
theorem fo_2(h:(Ci.f4y a b c).ahd (Ci.f4x a b c)=true)(e:(cierr (Ci.f4x a b c) != 0)=true):Value.tuple #[rciV rzCi,rciV rzCi,.int .i64 4]=.tuple #[rciV (Ci.f4P a b c),rciV (Ci.f4Q a b c),.int .i64 (Ci.f4E a b c)] :=
 fo_e (by unfold Ci.f4b Ci.f4q;rw [if_pos h,e,Bool.or_true])
theorem fo_3(h:(Ci.f4y a b c).ahd (Ci.f4x a b c)=true)(e:(cierr (Ci.f4y a b c) != 0)=false)(e': (cierr (Ci.f4x a b c) != 0)=false):Value.tuple #[rciV (cicut (Ci.f4y a b c)),rciV (cicut (Ci.f4x a b c)),.int .i64 0]=.tuple #[rciV (Ci.f4P a b c),rciV (Ci.f4Q a b c),.int .i64 (Ci.f4E a b c)]:=by
 have g:¬ Ci.f4b a b c=true:=by unfold Ci.f4b Ci.f4p Ci.f4q;rw [if_pos h,if_pos h,e,e'];decide
 unfold Ci.f4P Ci.f4Q Ci.f4E;rw [if_neg g,if_neg g,if_neg g];unfold Ci.f4p Ci.f4q;rw [if_pos h,if_pos h]
theorem fo_4(h:(Ci.f4y a b c).ahd (Ci.f4x a b c)=false)(e:(cierr (Ci.f4x a b c) != 0)=true):Value.tuple #[rciV rzCi,rciV rzCi,.int .i64 4]=.tuple #[rciV (Ci.f4P a b c),rciV (Ci.f4Q a b c),.int .i64 (Ci.f4E a b c)] :=
 fo_e (by unfold Ci.f4b Ci.f4p;rw [if_neg (by rw [h];decide),e];rfl)
theorem fo_5(h:(Ci.f4y a b c).ahd (Ci.f4x a b c)=false)(e:(cierr (Ci.f4y a b c) != 0)=true):Value.tuple #[rciV rzCi,rciV rzCi,.int .i64 4]=.tuple #[rciV (Ci.f4P a b c),rciV (Ci.f4Q a b c),.int .i64 (Ci.f4E a b c)] :=
 fo_e (by unfold Ci.f4b Ci.f4q;rw [if_neg (by rw [h];decide),e,Bool.or_true])
theorem fo_6(h:(Ci.f4y a b c).ahd (Ci.f4x a b c)=false)(e:(cierr (Ci.f4x a b c) != 0)=false)(e': (cierr (Ci.f4y a b c) != 0)=false):Value.tuple #[rciV (cicut (Ci.f4x a b c)),rciV (cicut (Ci.f4y a b c)),.int .i64 0]=.tuple #[rciV (Ci.f4P a b c),rciV (Ci.f4Q a b c),.int .i64 (Ci.f4E a b c)]:=by
 have h' : ¬ (Ci.f4y a b c).ahd (Ci.f4x a b c)=true:=by rw [h];decide
 have g:¬ Ci.f4b a b c=true:=by unfold Ci.f4b Ci.f4p Ci.f4q;rw [if_neg h', if_neg h', e,e'];decide
 unfold Ci.f4P Ci.f4Q Ci.f4E;rw [if_neg g,if_neg g,if_neg g];unfold Ci.f4p Ci.f4q;rw [if_neg h', if_neg h']
end
def Ci.swp(a b c d x:Ci):Ci:=(((((a.plus b).plus c).plus d).plus x.out).plus ((((a.plus b).plus c).plus d).plus x.out)).plus x.out
def Ci.all4(a b c d:Ci):Bool:=[b.touch a].all id&&[c.touch a,c.touch b].all id&&[d.touch a,d.touch b,d.touch c].all id
theorem swp_ht(a b c d x:Ci):ht (Ci.swp a b c d x).a+ht (Ci.swp a b c d x).b.re+ht (Ci.swp a b c d x).b.im+ht (Ci.swp a b c d x).c≤2*((ht a.a+ht a.b.re+ht a.b.im+ht a.c)+(ht b.a+ht b.b.re+ht b.b.im+ht b.c)+(ht c.a+ht c.b.re+ht c.b.im+ht c.c)+(ht d.a+ht d.b.re+ht d.b.im+ht d.c))+3*(ht x.a+ht x.b.re+ht x.b.im+ht x.c):=by
 have h1:=plus_ht a b
 have h2:=plus_ht (a.plus b) c
 have h3:=plus_ht ((a.plus b).plus c) d
 have h4:=out_hs x
 have h5:=plus_ht (((a.plus b).plus c).plus d) x.out
 have h6:=plus_ht ((((a.plus b).plus c).plus d).plus x.out) ((((a.plus b).plus c).plus d).plus x.out)
 have h7:=plus_ht (((((a.plus b).plus c).plus d).plus x.out).plus ((((a.plus b).plus c).plus d).plus x.out)) x.out
 unfold Ci.swp;omega
theorem ci1_eq(b:Bool):decide ((0:Int)≤idxF [!b] 0)=b:=by cases b<;>rfl
theorem nT{b:Bool}(h:(!b)=false):b=true:=by simpa using h
theorem nF{b:Bool}(h:(!b)=true):b=false:=by simpa using h
theorem wneg(a b:Int):IntKind.wrap .i64 (-(icmp a b))=-(icmp a b):=by
 unfold icmp;split
 ·decide
 ·split<;>decide
end Go.Proofs.YtcboejgklgnifaaGreat
namespace Go.Proofs.YtcboejgklgnifaaGreat
open Go.RowKit Rgn Eng
variable {S:Nat→Prop} {W:World}
theorem tc1{v0 w1_0 w1_1 w1_2 w1_3:Value}{b1:Nat}(y x:Ci)(t0:(RingP y).p S v0 W)(B1:W.heap[b1]? = some (.cells #[w1_0,w1_1,w1_2,w1_3] 133 (0,0)))(t1:(RingP x).p S (.agg #[w1_0,w1_1,w1_2,w1_3]) W)(p0:ht x.a+ht x.b.re+ht x.b.im+ht x.c+(ht y.a+ht y.b.re+ht y.b.im+ht y.c)≤67108000):Calls Tryz.prog 182 #[v0,.pointer (some ⟨b1,0,none⟩)] W (RetV (.bool (!(x.touch y))) W):=by
 refine Run.goP (S:=S) ((Pack.nil.s spRing t0).bv B1 none 4 (ringCells t1)) Tryz.func182 rfl ?_
 refine Run.cV [.bool (x.touch y)] kb (fun _ _ _ H=>dsTouch x y (RingP.mk (H.f 4) (H.f 5) (H.f 6) (H.f 7)) (RingP.mk (H.f 0) (H.f 1) (H.f 2) (H.f 3)) p0) ?_
 refine (Bool.eq_false_or_eq_true (x.touch y)).elim (fun c1=>?_) (fun c1=>?_)
 · refine Run.kn c1 ?_
   exact Run.rV (V' := .bool false) ((congrArg Value.bool (by simp [c1])))
 · refine Run.kn c1 ?_
   exact Run.rV (V' := .bool true) ((congrArg Value.bool (by simp [c1])))
theorem ix0{w1_0 w1_1 w1_2 w1_3:Value}{b0 b1:Nat}(n0:Nat)(x:Ci)(B0:∃ r:List Value,W.heap[b0]? = some (.cells ⟨[]++r⟩ 133 (0,0)))(B1:W.heap[b1]? = some (.cells #[w1_0,w1_1,w1_2,w1_3] 133 (0,0)))(t1:(RingP x).p S (.agg #[w1_0,w1_1,w1_2,w1_3]) W):Calls Tryz.prog 230 #[.slice (some ⟨b0,0,none⟩) 0 n0,.func (.func 182) #[] #[.pointer (some ⟨b1,0,none⟩)]] W (RetV (.int .i64 (idxF [] 0)) W):=by
 refine Run.goP (S:=S) ((Pack.nil.bm B0 0 n0 0 ((show AllF (Amb S W) W [] [] from trivial))).bf B1 182 4 (ringCells t1)) Tryz.func230 rfl ?_
 exact Run.rV rfl
theorem ix1{w0_0 w0_1 w0_2 w0_3 w1_0 w1_1 w1_2 w1_3:Value}{b0 b1:Nat}(n0:Nat)(y0 x:Ci)(B0:∃ r:List Value,W.heap[b0]? = some (.cells ⟨[w0_0,w0_1,w0_2,w0_3]++r⟩ 133 (0,0)))(t0_0:(RingP y0).p S (.agg #[w0_0,w0_1,w0_2,w0_3]) W)(B1:W.heap[b1]? = some (.cells #[w1_0,w1_1,w1_2,w1_3] 133 (0,0)))(t1:(RingP x).p S (.agg #[w1_0,w1_1,w1_2,w1_3]) W)(p0:ht x.a+ht x.b.re+ht x.b.im+ht x.c+(ht y0.a+ht y0.b.re+ht y0.b.im+ht y0.c)≤67108000):Calls Tryz.prog 230 #[.slice (some ⟨b0,0,none⟩) 1 n0,.func (.func 182) #[] #[.pointer (some ⟨b1,0,none⟩)]] W (RetV (.int .i64 (idxF [x.touch y0] 0)) W):=by
 refine Run.goP (S:=S) ((Pack.nil.bm B0 1 n0 4 (ringCells t0_0)).bf B1 182 4 (ringCells t1)) Tryz.func230 rfl ?_
 refine Run.cV [.bool (!(x.touch y0))] kb (fun _ _ _ H=>tc1 y0 x (RingP.mk (H.f 0) (H.f 1) (H.f 2) (H.f 3)) (H.b 1) (RingP.mk (H.f 4) (H.f 5) (H.f 6) (H.f 7)) p0) ?_
 refine (Bool.eq_false_or_eq_true (!(x.touch y0))).elim (fun c1=>?_) (fun c1=>?_)
 · refine Run.kn c1 ?_
   exact Run.rV (V' := .int .i64 (0)) ((congrArg (Value.int .i64) (by simp [idxF,nF c1])))
 · refine Run.kn c1 ?_
   exact Run.rV (V' := .int .i64 (-1)) ((congrArg (Value.int .i64) (by simp [idxF,nT c1])))
theorem ix2{w0_0 w0_1 w0_2 w0_3 w0_4 w0_5 w0_6 w0_7 w1_0 w1_1 w1_2 w1_3:Value}{b0 b1:Nat}(n0:Nat)(y0 y1 x:Ci)(B0:∃ r:List Value,W.heap[b0]? = some (.cells ⟨[w0_0,w0_1,w0_2,w0_3,w0_4,w0_5,w0_6,w0_7]++r⟩ 133 (0,0)))(t0_0:(RingP y0).p S (.agg #[w0_0,w0_1,w0_2,w0_3]) W)(t0_1:(RingP y1).p S (.agg #[w0_4,w0_5,w0_6,w0_7]) W)(B1:W.heap[b1]? = some (.cells #[w1_0,w1_1,w1_2,w1_3] 133 (0,0)))(t1:(RingP x).p S (.agg #[w1_0,w1_1,w1_2,w1_3]) W)(p0:ht x.a+ht x.b.re+ht x.b.im+ht x.c+(ht y0.a+ht y0.b.re+ht y0.b.im+ht y0.c)≤67108000)(p1:ht x.a+ht x.b.re+ht x.b.im+ht x.c+(ht y1.a+ht y1.b.re+ht y1.b.im+ht y1.c)≤67108000):Calls Tryz.prog 230 #[.slice (some ⟨b0,0,none⟩) 2 n0,.func (.func 182) #[] #[.pointer (some ⟨b1,0,none⟩)]] W (RetV (.int .i64 (idxF [x.touch y0,x.touch y1] 0)) W):=by
 refine Run.goP (S:=S) ((Pack.nil.bm B0 2 n0 8 (AllF.app (ringCells t0_0) (ringCells t0_1))).bf B1 182 4 (ringCells t1)) Tryz.func230 rfl ?_
 refine Run.cV [.bool (!(x.touch y0))] kb (fun _ _ _ H=>tc1 y0 x (RingP.mk (H.f 0) (H.f 1) (H.f 2) (H.f 3)) (H.b 1) (RingP.mk (H.f 8) (H.f 9) (H.f 10) (H.f 11)) p0) ?_
 refine (Bool.eq_false_or_eq_true (!(x.touch y0))).elim (fun c1=>?_) (fun c1=>?_)
 · refine Run.kn c1 ?_
   exact Run.rV (V' := .int .i64 (0)) ((congrArg (Value.int .i64) (by simp [idxF,nF c1])))
 · refine Run.kn c1 ?_
   refine Run.cV [.bool (!(x.touch y1))] kb (fun _ _ _ H=>tc1 y1 x (RingP.mk (H.f 4) (H.f 5) (H.f 6) (H.f 7)) (H.b 1) (RingP.mk (H.f 8) (H.f 9) (H.f 10) (H.f 11)) p1) ?_
   refine (Bool.eq_false_or_eq_true (!(x.touch y1))).elim (fun c2=>?_) (fun c2=>?_)
   · refine Run.kn c2 ?_
     exact Run.rV (V' := .int .i64 (1)) ((congrArg (Value.int .i64) (by simp [idxF,nT c1,nF c2])))
   · refine Run.kn c2 ?_
     exact Run.rV (V' := .int .i64 (-1)) ((congrArg (Value.int .i64) (by simp [idxF,nT c1,nT c2])))
theorem ix3{w0_0 w0_1 w0_2 w0_3 w0_4 w0_5 w0_6 w0_7 w0_8 w0_9 w0_10 w0_11 w1_0 w1_1 w1_2 w1_3:Value}{b0 b1:Nat}(n0:Nat)(y0 y1 y2 x:Ci)(B0:∃ r:List Value,W.heap[b0]? = some (.cells ⟨[w0_0,w0_1,w0_2,w0_3,w0_4,w0_5,w0_6,w0_7,w0_8,w0_9,w0_10,w0_11]++r⟩ 133 (0,0)))(t0_0:(RingP y0).p S (.agg #[w0_0,w0_1,w0_2,w0_3]) W)(t0_1:(RingP y1).p S (.agg #[w0_4,w0_5,w0_6,w0_7]) W)(t0_2:(RingP y2).p S (.agg #[w0_8,w0_9,w0_10,w0_11]) W)(B1:W.heap[b1]? = some (.cells #[w1_0,w1_1,w1_2,w1_3] 133 (0,0)))(t1:(RingP x).p S (.agg #[w1_0,w1_1,w1_2,w1_3]) W)(p0:ht x.a+ht x.b.re+ht x.b.im+ht x.c+(ht y0.a+ht y0.b.re+ht y0.b.im+ht y0.c)≤67108000)(p1:ht x.a+ht x.b.re+ht x.b.im+ht x.c+(ht y1.a+ht y1.b.re+ht y1.b.im+ht y1.c)≤67108000)(p2:ht x.a+ht x.b.re+ht x.b.im+ht x.c+(ht y2.a+ht y2.b.re+ht y2.b.im+ht y2.c)≤67108000):Calls Tryz.prog 230 #[.slice (some ⟨b0,0,none⟩) 3 n0,.func (.func 182) #[] #[.pointer (some ⟨b1,0,none⟩)]] W (RetV (.int .i64 (idxF [x.touch y0,x.touch y1,x.touch y2] 0)) W):=by
 refine Run.goP (S:=S) ((Pack.nil.bm B0 3 n0 12 (AllF.app (ringCells t0_0) (AllF.app (ringCells t0_1) (ringCells t0_2)))).bf B1 182 4 (ringCells t1)) Tryz.func230 rfl ?_
 refine Run.cV [.bool (!(x.touch y0))] kb (fun _ _ _ H=>tc1 y0 x (RingP.mk (H.f 0) (H.f 1) (H.f 2) (H.f 3)) (H.b 1) (RingP.mk (H.f 12) (H.f 13) (H.f 14) (H.f 15)) p0) ?_
 refine (Bool.eq_false_or_eq_true (!(x.touch y0))).elim (fun c1=>?_) (fun c1=>?_)
 · refine Run.kn c1 ?_
   exact Run.rV (V' := .int .i64 (0)) ((congrArg (Value.int .i64) (by simp [idxF,nF c1])))
 · refine Run.kn c1 ?_
   refine Run.cV [.bool (!(x.touch y1))] kb (fun _ _ _ H=>tc1 y1 x (RingP.mk (H.f 4) (H.f 5) (H.f 6) (H.f 7)) (H.b 1) (RingP.mk (H.f 12) (H.f 13) (H.f 14) (H.f 15)) p1) ?_
   refine (Bool.eq_false_or_eq_true (!(x.touch y1))).elim (fun c2=>?_) (fun c2=>?_)
   · refine Run.kn c2 ?_
     exact Run.rV (V' := .int .i64 (1)) ((congrArg (Value.int .i64) (by simp [idxF,nT c1,nF c2])))
   · refine Run.kn c2 ?_
     refine Run.cV [.bool (!(x.touch y2))] kb (fun _ _ _ H=>tc1 y2 x (RingP.mk (H.f 8) (H.f 9) (H.f 10) (H.f 11)) (H.b 1) (RingP.mk (H.f 12) (H.f 13) (H.f 14) (H.f 15)) p2) ?_
     refine (Bool.eq_false_or_eq_true (!(x.touch y2))).elim (fun c3=>?_) (fun c3=>?_)
     · refine Run.kn c3 ?_
       exact Run.rV (V' := .int .i64 (2)) ((congrArg (Value.int .i64) (by simp [idxF,nT c1,nT c2,nF c3])))
     · refine Run.kn c3 ?_
       exact Run.rV (V' := .int .i64 (-1)) ((congrArg (Value.int .i64) (by simp [idxF,nT c1,nT c2,nT c3])))
theorem cf0{w1_0 w1_1 w1_2 w1_3:Value}{b0 b1:Nat}(n0:Nat)(x:Ci)(B0:∃ r:List Value,W.heap[b0]? = some (.cells ⟨[]++r⟩ 133 (0,0)))(B1:W.heap[b1]? = some (.cells #[w1_0,w1_1,w1_2,w1_3] 133 (0,0)))(t1:(RingP x).p S (.agg #[w1_0,w1_1,w1_2,w1_3]) W):Calls Tryz.prog 181 #[.slice (some ⟨b0,0,none⟩) 0 n0,.func (.func 182) #[] #[.pointer (some ⟨b1,0,none⟩)]] W (RetV (.bool (!([].all id))) W):=by
 refine Run.goP (S:=S) ((Pack.nil.bm B0 0 n0 0 ((show AllF (Amb S W) W [] [] from trivial))).bf B1 182 4 (ringCells t1)) Tryz.func181 rfl ?_
 refine Run.cV [.int .i64 (idxF [] 0)] kb (fun _ _ _ H=>ix0 n0 x (H.bq 0 0) (H.b 1) (RingP.mk (H.f 0) (H.f 1) (H.f 2) (H.f 3))) ?_
 refine Run.ic (idxF [] 0) 0 (decide (0≤(idxF [] 0))) ?_
 exact Run.rV ((congrArg Value.bool (idxF_all _)))
theorem cf1{w0_0 w0_1 w0_2 w0_3 w1_0 w1_1 w1_2 w1_3:Value}{b0 b1:Nat}(n0:Nat)(y0 x:Ci)(B0:∃ r:List Value,W.heap[b0]? = some (.cells ⟨[w0_0,w0_1,w0_2,w0_3]++r⟩ 133 (0,0)))(t0_0:(RingP y0).p S (.agg #[w0_0,w0_1,w0_2,w0_3]) W)(B1:W.heap[b1]? = some (.cells #[w1_0,w1_1,w1_2,w1_3] 133 (0,0)))(t1:(RingP x).p S (.agg #[w1_0,w1_1,w1_2,w1_3]) W)(p0:ht x.a+ht x.b.re+ht x.b.im+ht x.c+(ht y0.a+ht y0.b.re+ht y0.b.im+ht y0.c)≤67108000):Calls Tryz.prog 181 #[.slice (some ⟨b0,0,none⟩) 1 n0,.func (.func 182) #[] #[.pointer (some ⟨b1,0,none⟩)]] W (RetV (.bool (!([x.touch y0].all id))) W):=by
 refine Run.goP (S:=S) ((Pack.nil.bm B0 1 n0 4 (ringCells t0_0)).bf B1 182 4 (ringCells t1)) Tryz.func181 rfl ?_
 refine Run.cV [.int .i64 (idxF [x.touch y0] 0)] kb (fun _ _ _ H=>ix1 n0 y0 x (H.bq 0 4) (RingP.mk (H.f 0) (H.f 1) (H.f 2) (H.f 3)) (H.b 1) (RingP.mk (H.f 4) (H.f 5) (H.f 6) (H.f 7)) p0) ?_
 refine Run.ic (idxF [x.touch y0] 0) 0 (decide (0≤(idxF [x.touch y0] 0))) ?_
 exact Run.rV ((congrArg Value.bool (idxF_all _)))
theorem cf2{w0_0 w0_1 w0_2 w0_3 w0_4 w0_5 w0_6 w0_7 w1_0 w1_1 w1_2 w1_3:Value}{b0 b1:Nat}(n0:Nat)(y0 y1 x:Ci)(B0:∃ r:List Value,W.heap[b0]? = some (.cells ⟨[w0_0,w0_1,w0_2,w0_3,w0_4,w0_5,w0_6,w0_7]++r⟩ 133 (0,0)))(t0_0:(RingP y0).p S (.agg #[w0_0,w0_1,w0_2,w0_3]) W)(t0_1:(RingP y1).p S (.agg #[w0_4,w0_5,w0_6,w0_7]) W)(B1:W.heap[b1]? = some (.cells #[w1_0,w1_1,w1_2,w1_3] 133 (0,0)))(t1:(RingP x).p S (.agg #[w1_0,w1_1,w1_2,w1_3]) W)(p0:ht x.a+ht x.b.re+ht x.b.im+ht x.c+(ht y0.a+ht y0.b.re+ht y0.b.im+ht y0.c)≤67108000)(p1:ht x.a+ht x.b.re+ht x.b.im+ht x.c+(ht y1.a+ht y1.b.re+ht y1.b.im+ht y1.c)≤67108000):Calls Tryz.prog 181 #[.slice (some ⟨b0,0,none⟩) 2 n0,.func (.func 182) #[] #[.pointer (some ⟨b1,0,none⟩)]] W (RetV (.bool (!([x.touch y0,x.touch y1].all id))) W):=by
 refine Run.goP (S:=S) ((Pack.nil.bm B0 2 n0 8 (AllF.app (ringCells t0_0) (ringCells t0_1))).bf B1 182 4 (ringCells t1)) Tryz.func181 rfl ?_
 refine Run.cV [.int .i64 (idxF [x.touch y0,x.touch y1] 0)] kb (fun _ _ _ H=>ix2 n0 y0 y1 x (H.bq 0 8) (RingP.mk (H.f 0) (H.f 1) (H.f 2) (H.f 3)) (RingP.mk (H.f 4) (H.f 5) (H.f 6) (H.f 7)) (H.b 1) (RingP.mk (H.f 8) (H.f 9) (H.f 10) (H.f 11)) p0 p1) ?_
 refine Run.ic (idxF [x.touch y0,x.touch y1] 0) 0 (decide (0≤(idxF [x.touch y0,x.touch y1] 0))) ?_
 exact Run.rV ((congrArg Value.bool (idxF_all _)))
theorem cf3{w0_0 w0_1 w0_2 w0_3 w0_4 w0_5 w0_6 w0_7 w0_8 w0_9 w0_10 w0_11 w1_0 w1_1 w1_2 w1_3:Value}{b0 b1:Nat}(n0:Nat)(y0 y1 y2 x:Ci)(B0:∃ r:List Value,W.heap[b0]? = some (.cells ⟨[w0_0,w0_1,w0_2,w0_3,w0_4,w0_5,w0_6,w0_7,w0_8,w0_9,w0_10,w0_11]++r⟩ 133 (0,0)))(t0_0:(RingP y0).p S (.agg #[w0_0,w0_1,w0_2,w0_3]) W)(t0_1:(RingP y1).p S (.agg #[w0_4,w0_5,w0_6,w0_7]) W)(t0_2:(RingP y2).p S (.agg #[w0_8,w0_9,w0_10,w0_11]) W)(B1:W.heap[b1]? = some (.cells #[w1_0,w1_1,w1_2,w1_3] 133 (0,0)))(t1:(RingP x).p S (.agg #[w1_0,w1_1,w1_2,w1_3]) W)(p0:ht x.a+ht x.b.re+ht x.b.im+ht x.c+(ht y0.a+ht y0.b.re+ht y0.b.im+ht y0.c)≤67108000)(p1:ht x.a+ht x.b.re+ht x.b.im+ht x.c+(ht y1.a+ht y1.b.re+ht y1.b.im+ht y1.c)≤67108000)(p2:ht x.a+ht x.b.re+ht x.b.im+ht x.c+(ht y2.a+ht y2.b.re+ht y2.b.im+ht y2.c)≤67108000):Calls Tryz.prog 181 #[.slice (some ⟨b0,0,none⟩) 3 n0,.func (.func 182) #[] #[.pointer (some ⟨b1,0,none⟩)]] W (RetV (.bool (!([x.touch y0,x.touch y1,x.touch y2].all id))) W):=by
 refine Run.goP (S:=S) ((Pack.nil.bm B0 3 n0 12 (AllF.app (ringCells t0_0) (AllF.app (ringCells t0_1) (ringCells t0_2)))).bf B1 182 4 (ringCells t1)) Tryz.func181 rfl ?_
 refine Run.cV [.int .i64 (idxF [x.touch y0,x.touch y1,x.touch y2] 0)] kb (fun _ _ _ H=>ix3 n0 y0 y1 y2 x (H.bq 0 12) (RingP.mk (H.f 0) (H.f 1) (H.f 2) (H.f 3)) (RingP.mk (H.f 4) (H.f 5) (H.f 6) (H.f 7)) (RingP.mk (H.f 8) (H.f 9) (H.f 10) (H.f 11)) (H.b 1) (RingP.mk (H.f 12) (H.f 13) (H.f 14) (H.f 15)) p0 p1 p2) ?_
 refine Run.ic (idxF [x.touch y0,x.touch y1,x.touch y2] 0) 0 (decide (0≤(idxF [x.touch y0,x.touch y1,x.touch y2] 0))) ?_
 exact Run.rV ((congrArg Value.bool (idxF_all _)))
theorem tch3{w0_0 w0_1 w0_2 w0_3 w0_4 w0_5 w0_6 w0_7 w0_8 w0_9 w0_10 w0_11:Value}{b0:Nat}(n0:Nat)(d0 d1 d2:Ci)(B0:∃ r:List Value,W.heap[b0]? = some (.cells ⟨[w0_0,w0_1,w0_2,w0_3,w0_4,w0_5,w0_6,w0_7,w0_8,w0_9,w0_10,w0_11]++r⟩ 133 (0,0)))(t0_0:(RingP d0).p S (.agg #[w0_0,w0_1,w0_2,w0_3]) W)(t0_1:(RingP d1).p S (.agg #[w0_4,w0_5,w0_6,w0_7]) W)(t0_2:(RingP d2).p S (.agg #[w0_8,w0_9,w0_10,w0_11]) W)(p0:ht d1.a+ht d1.b.re+ht d1.b.im+ht d1.c+(ht d0.a+ht d0.b.re+ht d0.b.im+ht d0.c)≤67108000)(p1:ht d2.a+ht d2.b.re+ht d2.b.im+ht d2.c+(ht d0.a+ht d0.b.re+ht d0.b.im+ht d0.c)≤67108000)(p2:ht d2.a+ht d2.b.re+ht d2.b.im+ht d2.c+(ht d1.a+ht d1.b.re+ht d1.b.im+ht d1.c)≤67108000):Calls Tryz.prog 89 #[.slice (some ⟨b0,0,none⟩) 3 (n0+3)] W (RetV (.bool ([d1.touch d0].all id&&[d2.touch d0,d2.touch d1].all id)) W):=by
 refine Run.goP (S:=S) (Pack.nil.bm B0 3 (n0+3) 12 (AllF.app (ringCells t0_0) (AllF.app (ringCells t0_1) (ringCells t0_2)))) Tryz.func89 rfl ?_
 refine Run.cV [.bool (!([].all id))] kb (fun _ _ _ H=>cf0 (n0+3) d0 (H.bq 0 0) (H.b 1) (RingP.mk (H.f 0) (H.f 1) (H.f 2) (H.f 3))) ?_
 refine Run.kn (b:=false) rfl ?_
 refine Run.cV [.bool (!([d1.touch d0].all id))] kb (fun _ _ _ H=>cf1 (n0+3) d0 d1 (H.bq 0 4) (RingP.mk (H.f 0) (H.f 1) (H.f 2) (H.f 3)) (H.b 2) (RingP.mk (H.f 4) (H.f 5) (H.f 6) (H.f 7)) p0) ?_
 refine (Bool.eq_false_or_eq_true (!([d1.touch d0].all id))).elim (fun c1=>?_) (fun c1=>?_)
 · refine Run.kn c1 ?_
   exact Run.rV (V' := .bool false) ((congrArg Value.bool (by simp only [nF c1,Bool.and_false,Bool.false_and,Bool.and_true])))
 · refine Run.kn c1 ?_
   refine Run.cV [.bool (!([d2.touch d0,d2.touch d1].all id))] kb (fun _ _ _ H=>cf2 (n0+3) d0 d1 d2 (H.bq 0 8) (RingP.mk (H.f 0) (H.f 1) (H.f 2) (H.f 3)) (RingP.mk (H.f 4) (H.f 5) (H.f 6) (H.f 7)) (H.b 3) (RingP.mk (H.f 8) (H.f 9) (H.f 10) (H.f 11)) p1 p2) ?_
   refine (Bool.eq_false_or_eq_true (!([d2.touch d0,d2.touch d1].all id))).elim (fun c2=>?_) (fun c2=>?_)
   · refine Run.kn c2 ?_
     exact Run.rV (V' := .bool false) ((congrArg Value.bool (by simp only [nT c1,nF c2,Bool.and_false,Bool.false_and,Bool.and_true])))
   · refine Run.kn c2 ?_
     exact Run.rV (V' := .bool true) ((congrArg Value.bool (by simp only [nT c1,nT c2,Bool.and_false,Bool.false_and,Bool.and_true])))
theorem tch4{w0_0 w0_1 w0_2 w0_3 w0_4 w0_5 w0_6 w0_7 w0_8 w0_9 w0_10 w0_11 w0_12 w0_13 w0_14 w0_15:Value}{b0:Nat}(n0:Nat)(d0 d1 d2 d3:Ci)(B0:∃ r:List Value,W.heap[b0]? = some (.cells ⟨[w0_0,w0_1,w0_2,w0_3,w0_4,w0_5,w0_6,w0_7,w0_8,w0_9,w0_10,w0_11,w0_12,w0_13,w0_14,w0_15]++r⟩ 133 (0,0)))(t0_0:(RingP d0).p S (.agg #[w0_0,w0_1,w0_2,w0_3]) W)(t0_1:(RingP d1).p S (.agg #[w0_4,w0_5,w0_6,w0_7]) W)(t0_2:(RingP d2).p S (.agg #[w0_8,w0_9,w0_10,w0_11]) W)(t0_3:(RingP d3).p S (.agg #[w0_12,w0_13,w0_14,w0_15]) W)(p0:ht d1.a+ht d1.b.re+ht d1.b.im+ht d1.c+(ht d0.a+ht d0.b.re+ht d0.b.im+ht d0.c)≤67108000)(p1:ht d2.a+ht d2.b.re+ht d2.b.im+ht d2.c+(ht d0.a+ht d0.b.re+ht d0.b.im+ht d0.c)≤67108000)(p2:ht d2.a+ht d2.b.re+ht d2.b.im+ht d2.c+(ht d1.a+ht d1.b.re+ht d1.b.im+ht d1.c)≤67108000)(p3:ht d3.a+ht d3.b.re+ht d3.b.im+ht d3.c+(ht d0.a+ht d0.b.re+ht d0.b.im+ht d0.c)≤67108000)(p4:ht d3.a+ht d3.b.re+ht d3.b.im+ht d3.c+(ht d1.a+ht d1.b.re+ht d1.b.im+ht d1.c)≤67108000)(p5:ht d3.a+ht d3.b.re+ht d3.b.im+ht d3.c+(ht d2.a+ht d2.b.re+ht d2.b.im+ht d2.c)≤67108000):Calls Tryz.prog 89 #[.slice (some ⟨b0,0,none⟩) 4 (n0+4)] W (RetV (.bool ([d1.touch d0].all id&&[d2.touch d0,d2.touch d1].all id&&[d3.touch d0,d3.touch d1,d3.touch d2].all id)) W):=by
 refine Run.goP (S:=S) (Pack.nil.bm B0 4 (n0+4) 16 (AllF.app (ringCells t0_0) (AllF.app (ringCells t0_1) (AllF.app (ringCells t0_2) (ringCells t0_3))))) Tryz.func89 rfl ?_
 refine Run.cV [.bool (!([].all id))] kb (fun _ _ _ H=>cf0 (n0+4) d0 (H.bq 0 0) (H.b 1) (RingP.mk (H.f 0) (H.f 1) (H.f 2) (H.f 3))) ?_
 refine Run.kn (b:=false) rfl ?_
 refine Run.cV [.bool (!([d1.touch d0].all id))] kb (fun _ _ _ H=>cf1 (n0+4) d0 d1 (H.bq 0 4) (RingP.mk (H.f 0) (H.f 1) (H.f 2) (H.f 3)) (H.b 2) (RingP.mk (H.f 4) (H.f 5) (H.f 6) (H.f 7)) p0) ?_
 refine (Bool.eq_false_or_eq_true (!([d1.touch d0].all id))).elim (fun c1=>?_) (fun c1=>?_)
 · refine Run.kn c1 ?_
   exact Run.rV (V' := .bool false) ((congrArg Value.bool (by simp only [nF c1,Bool.and_false,Bool.false_and,Bool.and_true])))
 · refine Run.kn c1 ?_
   refine Run.cV [.bool (!([d2.touch d0,d2.touch d1].all id))] kb (fun _ _ _ H=>cf2 (n0+4) d0 d1 d2 (H.bq 0 8) (RingP.mk (H.f 0) (H.f 1) (H.f 2) (H.f 3)) (RingP.mk (H.f 4) (H.f 5) (H.f 6) (H.f 7)) (H.b 3) (RingP.mk (H.f 8) (H.f 9) (H.f 10) (H.f 11)) p1 p2) ?_
   refine (Bool.eq_false_or_eq_true (!([d2.touch d0,d2.touch d1].all id))).elim (fun c2=>?_) (fun c2=>?_)
   · refine Run.kn c2 ?_
     exact Run.rV (V' := .bool false) ((congrArg Value.bool (by simp only [nT c1,nF c2,Bool.and_false,Bool.false_and,Bool.and_true])))
   · refine Run.kn c2 ?_
     refine Run.cV [.bool (!([d3.touch d0,d3.touch d1,d3.touch d2].all id))] kb (fun _ _ _ H=>cf3 (n0+4) d0 d1 d2 d3 (H.bq 0 12) (RingP.mk (H.f 0) (H.f 1) (H.f 2) (H.f 3)) (RingP.mk (H.f 4) (H.f 5) (H.f 6) (H.f 7)) (RingP.mk (H.f 8) (H.f 9) (H.f 10) (H.f 11)) (H.b 4) (RingP.mk (H.f 12) (H.f 13) (H.f 14) (H.f 15)) p3 p4 p5) ?_
     refine (Bool.eq_false_or_eq_true (!([d3.touch d0,d3.touch d1,d3.touch d2].all id))).elim (fun c3=>?_) (fun c3=>?_)
     · refine Run.kn c3 ?_
       exact Run.rV (V' := .bool false) ((congrArg Value.bool (by simp only [nT c1,nT c2,nF c3,Bool.and_false,Bool.false_and,Bool.and_true])))
     · refine Run.kn c3 ?_
       exact Run.rV (V' := .bool true) ((congrArg Value.bool (by simp only [nT c1,nT c2,nT c3,Bool.and_false,Bool.false_and,Bool.and_true])))
theorem pl2Y{b0:Nat}(T0:TypeId)(d0 d1:Ci)(B0:W.heap[b0]? = some (.cells (⟨(ciC d0).toList++((ciC d1).toList)⟩) T0 (0,0)))(p0:dsOk (rci d0)=true)(p1:dsOk (rci d1)=true):Calls Tryz.prog 74 #[.slice (some ⟨b0,0,none⟩) 2 2] W (RetB 133 2 (ringF [d0,d1]) (.bool true) S W):=by
 refine Run.goP (S:=S) (Pack.nil.b B0 (some 2) 32) Tryz.func74 rfl ?_
 refine Run.cR (spRingC true) (fun _ _ _ H=>ePlateO d0 p0) ?_
 refine Run.a0 133 124 3 (fun cp1=>?_)
 refine Run.cR (spRingC true) (fun _ _ _ H=>ePlateO d1 p1) ?_
 refine Run.ap 124 4 1 cp1 7 (fun cp2=>?_)
 exact Run.rB 4 cp2
theorem pl3Y{b0:Nat}(T0:TypeId)(d0 d1 d2:Ci)(B0:W.heap[b0]? = some (.cells (⟨(ciC d0).toList++((ciC d1).toList++((ciC d2).toList))⟩) T0 (0,0)))(p0:dsOk (rci d0)=true)(p1:dsOk (rci d1)=true)(p2:dsOk (rci d2)=true):Calls Tryz.prog 74 #[.slice (some ⟨b0,0,none⟩) 3 3] W (RetB 133 3 (ringF [d0,d1,d2]) (.bool true) S W):=by
 refine Run.goP (S:=S) (Pack.nil.b B0 (some 3) 48) Tryz.func74 rfl ?_
 refine Run.cR (spRingC true) (fun _ _ _ H=>ePlateO d0 p0) ?_
 refine Run.a0 133 124 3 (fun cp1=>?_)
 refine Run.cR (spRingC true) (fun _ _ _ H=>ePlateO d1 p1) ?_
 refine Run.ap 124 4 1 cp1 7 (fun cp2=>?_)
 refine Run.cR (spRingC true) (fun _ _ _ H=>ePlateO d2 p2) ?_
 refine Run.ap 124 4 2 cp2 10 (fun cp3=>?_)
 exact Run.rB 4 cp3
theorem pl4Y{b0:Nat}(T0:TypeId)(d0 d1 d2 d3:Ci)(B0:W.heap[b0]? = some (.cells (⟨(ciC d0).toList++((ciC d1).toList++((ciC d2).toList++((ciC d3).toList)))⟩) T0 (0,0)))(p0:dsOk (rci d0)=true)(p1:dsOk (rci d1)=true)(p2:dsOk (rci d2)=true)(p3:dsOk (rci d3)=true):Calls Tryz.prog 74 #[.slice (some ⟨b0,0,none⟩) 4 4] W (RetB 133 4 (ringF [d0,d1,d2,d3]) (.bool true) S W):=by
 refine Run.goP (S:=S) (Pack.nil.b B0 (some 4) 64) Tryz.func74 rfl ?_
 refine Run.cR (spRingC true) (fun _ _ _ H=>ePlateO d0 p0) ?_
 refine Run.a0 133 124 3 (fun cp1=>?_)
 refine Run.cR (spRingC true) (fun _ _ _ H=>ePlateO d1 p1) ?_
 refine Run.ap 124 4 1 cp1 7 (fun cp2=>?_)
 refine Run.cR (spRingC true) (fun _ _ _ H=>ePlateO d2 p2) ?_
 refine Run.ap 124 4 2 cp2 10 (fun cp3=>?_)
 refine Run.cR (spRingC true) (fun _ _ _ H=>ePlateO d3 p3) ?_
 refine Run.ap 124 4 3 cp3 13 (fun cp4=>?_)
 exact Run.rB 4 cp4
theorem acm0{w1_0 w1_1 w1_2 w1_3 w1_4 w1_5 w1_6 w1_7 w1_8 w1_9 w1_10 w1_11:Value}{b1:Nat}(x0 x1 x2 x3 y0 y1 y2 y3 z0 z1 z2 z3:Rat)(B1:W.heap[b1]? = some (.cells #[w1_0,w1_1,w1_2,w1_3,w1_4,w1_5,w1_6,w1_7,w1_8,w1_9,w1_10,w1_11] 249 (0,0)))(hw1_0:(RatP x0).p S w1_0 W)(hw1_1:(RatP x1).p S w1_1 W)(hw1_2:(RatP x2).p S w1_2 W)(hw1_3:(RatP x3).p S w1_3 W)(hw1_4:(RatP y0).p S w1_4 W)(hw1_5:(RatP y1).p S w1_5 W)(hw1_6:(RatP y2).p S w1_6 W)(hw1_7:(RatP y3).p S w1_7 W)(hw1_8:(RatP z0).p S w1_8 W)(hw1_9:(RatP z1).p S w1_9 W)(hw1_10:(RatP z2).p S w1_10 W)(hw1_11:(RatP z3).p S w1_11 W)(p0:ht x0+ht x1+ht x2+ht x3≤40000)(p1:ht y0+ht y1+ht y2+ht y3≤40000)(p2:ht z0+ht z1+ht z2+ht z3≤40000):Calls Tryz.prog 184 #[.int .i64 0,.pointer (some ⟨b1,0,none⟩)] W (Ret (RatP (mn3 x1 x2 x3 y1 y2 y3 z1 z2 z3)) Z0 W):=by
 obtain⟨ex0,ex1,ex2,ex3,ey0,ey1,ey2,ey3,ez0,ez1,ez2,ez3⟩:ht x0≤40000∧ht x1≤40000∧ht x2≤40000∧ht x3≤40000∧ht y0≤40000∧ht y1≤40000∧ht y2≤40000∧ht y3≤40000∧ht z0≤40000∧ht z1≤40000∧ht z2≤40000∧ht z3≤40000:=by omega
 have k0:=hb_mul ey2 ez3 80000
 have k1:=hb_mul ey3 ez2 80000
 have k2:=hb_sub k0 k1 160000
 have k3:=hb_mul k2 ex1 200000
 have k4:=hb_add (Nat.le_of_eq ht_zero) k3 200002
 have k5:=hb_mul ey3 ez1 80000
 have k6:=hb_mul ey1 ez3 80000
 have k7:=hb_sub k5 k6 160000
 have k8:=hb_mul k7 ex2 200000
 have k9:=hb_add k4 k8 400002
 have k10:=hb_mul ey1 ez2 80000
 have k11:=hb_mul ey2 ez1 80000
 have k12:=hb_sub k10 k11 160000
 have k13:=hb_mul k12 ex3 200000
 have k14:=hb_add k9 k13 600002
 refine Run.goP (S:=S) ((Pack.nil.k (.int .i64 0) [] (.s (.o (.c (.int .i64 0))))).bv B1 none 12 (AllF.rat hw1_0 (AllF.rat hw1_1 (AllF.rat hw1_2 (AllF.rat hw1_3 (AllF.rat hw1_4 (AllF.rat hw1_5 (AllF.rat hw1_6 (AllF.rat hw1_7 (AllF.rat hw1_8 (AllF.rat hw1_9 (AllF.rat hw1_10 (AllF.rat hw1_11 AllF.z))))))))))))) Tryz.func184 rfl ?_
 refine Run.a0 3 31 1 (fun cp1=>?_)
 refine Run.ap 31 2 1 cp1 3 (fun cp2=>?_)
 refine Run.ap 31 2 2 cp2 4 (fun cp3=>?_)
 refine Run.dr ?_
 refine RunD.en ?_
 refine Run.dr ?_
 refine RunD.cO 6 softRat (fun _ _ _ H=>qMul y2 z3 (RatP.blk (H.oz 6)) (anyV (H.f 6)) (anyV (H.f 11)) (Nat.le_trans (Nat.add_le_add ey2 ez3) (by decide))) ?_
 refine RunD.en ?_
 refine Run.dr ?_
 refine RunD.cO 7 softRat (fun _ _ _ H=>qMul y3 z2 (RatP.blk (H.oz 7)) (anyV (H.f 7)) (anyV (H.f 10)) (Nat.le_trans (Nat.add_le_add ey3 ez2) (by decide))) ?_
 refine RunD.cO 6 softRat (fun _ _ _ H=>qSub (y2*z3) (y3*z2) (RatP.blk (q:=y2*z3) (H.o 6)) (anyV (H.o 6)) (anyV (H.o 7)) (Nat.le_trans (Nat.add_le_add k0 k1) (by decide))) ?_
 refine RunD.en ?_
 refine Run.cO 6 softRat (fun _ _ _ H=>qMul ((y2*z3)-(y3*z2)) x1 (RatP.blk (q:=(y2*z3)-(y3*z2)) (H.o 6)) (anyV (H.o 6)) (anyV (H.f 1)) (Nat.le_trans (Nat.add_le_add k2 ex1) (by decide))) ?_
 refine Run.cO 5 softRat (fun _ _ _ H=>qAdd (0:Rat) (((y2*z3)-(y3*z2))*x1) (RatP.blk (H.oz 5)) (anyV (H.oz 5)) (anyV (H.o 6)) (Nat.le_trans (Nat.add_le_add (Nat.le_of_eq ht_zero) k3) (by decide))) ?_
 refine Run.dr ?_
 refine RunD.en ?_
 refine Run.dr ?_
 refine RunD.cO 8 softRat (fun _ _ _ H=>qMul y3 z1 (RatP.blk (H.oz 8)) (anyV (H.f 7)) (anyV (H.f 9)) (Nat.le_trans (Nat.add_le_add ey3 ez1) (by decide))) ?_
 refine RunD.en ?_
 refine Run.dr ?_
 refine RunD.cO 9 softRat (fun _ _ _ H=>qMul y1 z3 (RatP.blk (H.oz 9)) (anyV (H.f 5)) (anyV (H.f 11)) (Nat.le_trans (Nat.add_le_add ey1 ez3) (by decide))) ?_
 refine RunD.cO 8 softRat (fun _ _ _ H=>qSub (y3*z1) (y1*z3) (RatP.blk (q:=y3*z1) (H.o 8)) (anyV (H.o 8)) (anyV (H.o 9)) (Nat.le_trans (Nat.add_le_add k5 k6) (by decide))) ?_
 refine RunD.en ?_
 refine Run.cO 8 softRat (fun _ _ _ H=>qMul ((y3*z1)-(y1*z3)) x2 (RatP.blk (q:=(y3*z1)-(y1*z3)) (H.o 8)) (anyV (H.o 8)) (anyV (H.f 2)) (Nat.le_trans (Nat.add_le_add k7 ex2) (by decide))) ?_
 refine Run.cO 5 softRat (fun _ _ _ H=>qAdd ((0:Rat)+(((y2*z3)-(y3*z2))*x1)) (((y3*z1)-(y1*z3))*x2) (RatP.blk (q:=(0:Rat)+(((y2*z3)-(y3*z2))*x1)) (H.o 5)) (anyV (H.o 5)) (anyV (H.o 8)) (Nat.le_trans (Nat.add_le_add k4 k8) (by decide))) ?_
 refine Run.dr ?_
 refine RunD.en ?_
 refine Run.dr ?_
 refine RunD.cO 10 softRat (fun _ _ _ H=>qMul y1 z2 (RatP.blk (H.oz 10)) (anyV (H.f 5)) (anyV (H.f 10)) (Nat.le_trans (Nat.add_le_add ey1 ez2) (by decide))) ?_
 refine RunD.en ?_
 refine Run.dr ?_
 refine RunD.cO 11 softRat (fun _ _ _ H=>qMul y2 z1 (RatP.blk (H.oz 11)) (anyV (H.f 6)) (anyV (H.f 9)) (Nat.le_trans (Nat.add_le_add ey2 ez1) (by decide))) ?_
 refine RunD.cO 10 softRat (fun _ _ _ H=>qSub (y1*z2) (y2*z1) (RatP.blk (q:=y1*z2) (H.o 10)) (anyV (H.o 10)) (anyV (H.o 11)) (Nat.le_trans (Nat.add_le_add k10 k11) (by decide))) ?_
 refine RunD.en ?_
 refine Run.cO 10 softRat (fun _ _ _ H=>qMul ((y1*z2)-(y2*z1)) x3 (RatP.blk (q:=(y1*z2)-(y2*z1)) (H.o 10)) (anyV (H.o 10)) (anyV (H.f 3)) (Nat.le_trans (Nat.add_le_add k12 ex3) (by decide))) ?_
 refine Run.cO 5 softRat (fun _ _ _ H=>qAdd (((0:Rat)+(((y2*z3)-(y3*z2))*x1))+(((y3*z1)-(y1*z3))*x2)) (((y1*z2)-(y2*z1))*x3) (RatP.blk (q:=((0:Rat)+(((y2*z3)-(y3*z2))*x1))+(((y3*z1)-(y1*z3))*x2)) (H.o 5)) (anyV (H.o 5)) (anyV (H.o 10)) (Nat.le_trans (Nat.add_le_add k9 k13) (by decide))) ?_
 exact Run.rN (φ:=RatP (mn3 x1 x2 x3 y1 y2 y3 z1 z2 z3)) 5 (fun _ _ _ H=>⟨H.ow 5,VPe (φ:=RatP) (rfl) (H.o 5)⟩)
theorem acm1{w1_0 w1_1 w1_2 w1_3 w1_4 w1_5 w1_6 w1_7 w1_8 w1_9 w1_10 w1_11:Value}{b1:Nat}(x0 x1 x2 x3 y0 y1 y2 y3 z0 z1 z2 z3:Rat)(B1:W.heap[b1]? = some (.cells #[w1_0,w1_1,w1_2,w1_3,w1_4,w1_5,w1_6,w1_7,w1_8,w1_9,w1_10,w1_11] 249 (0,0)))(hw1_0:(RatP x0).p S w1_0 W)(hw1_1:(RatP x1).p S w1_1 W)(hw1_2:(RatP x2).p S w1_2 W)(hw1_3:(RatP x3).p S w1_3 W)(hw1_4:(RatP y0).p S w1_4 W)(hw1_5:(RatP y1).p S w1_5 W)(hw1_6:(RatP y2).p S w1_6 W)(hw1_7:(RatP y3).p S w1_7 W)(hw1_8:(RatP z0).p S w1_8 W)(hw1_9:(RatP z1).p S w1_9 W)(hw1_10:(RatP z2).p S w1_10 W)(hw1_11:(RatP z3).p S w1_11 W)(p0:ht x0+ht x1+ht x2+ht x3≤40000)(p1:ht y0+ht y1+ht y2+ht y3≤40000)(p2:ht z0+ht z1+ht z2+ht z3≤40000):Calls Tryz.prog 184 #[.int .i64 1,.pointer (some ⟨b1,0,none⟩)] W (Ret (RatP (-(mn3 x0 x2 x3 y0 y2 y3 z0 z2 z3))) Z0 W):=by
 obtain⟨ex0,ex1,ex2,ex3,ey0,ey1,ey2,ey3,ez0,ez1,ez2,ez3⟩:ht x0≤40000∧ht x1≤40000∧ht x2≤40000∧ht x3≤40000∧ht y0≤40000∧ht y1≤40000∧ht y2≤40000∧ht y3≤40000∧ht z0≤40000∧ht z1≤40000∧ht z2≤40000∧ht z3≤40000:=by omega
 have k0:=hb_mul ey2 ez3 80000
 have k1:=hb_mul ey3 ez2 80000
 have k2:=hb_sub k0 k1 160000
 have k3:=hb_mul k2 ex0 200000
 have k4:=hb_add (Nat.le_of_eq ht_zero) k3 200002
 have k5:=hb_mul ey3 ez0 80000
 have k6:=hb_mul ey0 ez3 80000
 have k7:=hb_sub k5 k6 160000
 have k8:=hb_mul k7 ex2 200000
 have k9:=hb_add k4 k8 400002
 have k10:=hb_mul ey0 ez2 80000
 have k11:=hb_mul ey2 ez0 80000
 have k12:=hb_sub k10 k11 160000
 have k13:=hb_mul k12 ex3 200000
 have k14:=hb_add k9 k13 600002
 have k15:=hb_neg k14
 refine Run.goP (S:=S) ((Pack.nil.k (.int .i64 1) [] (.s (.o (.c (.int .i64 1))))).bv B1 none 12 (AllF.rat hw1_0 (AllF.rat hw1_1 (AllF.rat hw1_2 (AllF.rat hw1_3 (AllF.rat hw1_4 (AllF.rat hw1_5 (AllF.rat hw1_6 (AllF.rat hw1_7 (AllF.rat hw1_8 (AllF.rat hw1_9 (AllF.rat hw1_10 (AllF.rat hw1_11 AllF.z))))))))))))) Tryz.func184 rfl ?_
 refine Run.a0 3 31 1 (fun cp1=>?_)
 refine Run.ap 31 2 1 cp1 3 (fun cp2=>?_)
 refine Run.ap 31 2 2 cp2 4 (fun cp3=>?_)
 refine Run.dr ?_
 refine RunD.en ?_
 refine Run.dr ?_
 refine RunD.cO 6 softRat (fun _ _ _ H=>qMul y2 z3 (RatP.blk (H.oz 6)) (anyV (H.f 6)) (anyV (H.f 11)) (Nat.le_trans (Nat.add_le_add ey2 ez3) (by decide))) ?_
 refine RunD.en ?_
 refine Run.dr ?_
 refine RunD.cO 7 softRat (fun _ _ _ H=>qMul y3 z2 (RatP.blk (H.oz 7)) (anyV (H.f 7)) (anyV (H.f 10)) (Nat.le_trans (Nat.add_le_add ey3 ez2) (by decide))) ?_
 refine RunD.cO 6 softRat (fun _ _ _ H=>qSub (y2*z3) (y3*z2) (RatP.blk (q:=y2*z3) (H.o 6)) (anyV (H.o 6)) (anyV (H.o 7)) (Nat.le_trans (Nat.add_le_add k0 k1) (by decide))) ?_
 refine RunD.en ?_
 refine Run.cO 6 softRat (fun _ _ _ H=>qMul ((y2*z3)-(y3*z2)) x0 (RatP.blk (q:=(y2*z3)-(y3*z2)) (H.o 6)) (anyV (H.o 6)) (anyV (H.f 0)) (Nat.le_trans (Nat.add_le_add k2 ex0) (by decide))) ?_
 refine Run.cO 5 softRat (fun _ _ _ H=>qAdd (0:Rat) (((y2*z3)-(y3*z2))*x0) (RatP.blk (H.oz 5)) (anyV (H.oz 5)) (anyV (H.o 6)) (Nat.le_trans (Nat.add_le_add (Nat.le_of_eq ht_zero) k3) (by decide))) ?_
 refine Run.dr ?_
 refine RunD.en ?_
 refine Run.dr ?_
 refine RunD.cO 8 softRat (fun _ _ _ H=>qMul y3 z0 (RatP.blk (H.oz 8)) (anyV (H.f 7)) (anyV (H.f 8)) (Nat.le_trans (Nat.add_le_add ey3 ez0) (by decide))) ?_
 refine RunD.en ?_
 refine Run.dr ?_
 refine RunD.cO 9 softRat (fun _ _ _ H=>qMul y0 z3 (RatP.blk (H.oz 9)) (anyV (H.f 4)) (anyV (H.f 11)) (Nat.le_trans (Nat.add_le_add ey0 ez3) (by decide))) ?_
 refine RunD.cO 8 softRat (fun _ _ _ H=>qSub (y3*z0) (y0*z3) (RatP.blk (q:=y3*z0) (H.o 8)) (anyV (H.o 8)) (anyV (H.o 9)) (Nat.le_trans (Nat.add_le_add k5 k6) (by decide))) ?_
 refine RunD.en ?_
 refine Run.cO 8 softRat (fun _ _ _ H=>qMul ((y3*z0)-(y0*z3)) x2 (RatP.blk (q:=(y3*z0)-(y0*z3)) (H.o 8)) (anyV (H.o 8)) (anyV (H.f 2)) (Nat.le_trans (Nat.add_le_add k7 ex2) (by decide))) ?_
 refine Run.cO 5 softRat (fun _ _ _ H=>qAdd ((0:Rat)+(((y2*z3)-(y3*z2))*x0)) (((y3*z0)-(y0*z3))*x2) (RatP.blk (q:=(0:Rat)+(((y2*z3)-(y3*z2))*x0)) (H.o 5)) (anyV (H.o 5)) (anyV (H.o 8)) (Nat.le_trans (Nat.add_le_add k4 k8) (by decide))) ?_
 refine Run.dr ?_
 refine RunD.en ?_
 refine Run.dr ?_
 refine RunD.cO 10 softRat (fun _ _ _ H=>qMul y0 z2 (RatP.blk (H.oz 10)) (anyV (H.f 4)) (anyV (H.f 10)) (Nat.le_trans (Nat.add_le_add ey0 ez2) (by decide))) ?_
 refine RunD.en ?_
 refine Run.dr ?_
 refine RunD.cO 11 softRat (fun _ _ _ H=>qMul y2 z0 (RatP.blk (H.oz 11)) (anyV (H.f 6)) (anyV (H.f 8)) (Nat.le_trans (Nat.add_le_add ey2 ez0) (by decide))) ?_
 refine RunD.cO 10 softRat (fun _ _ _ H=>qSub (y0*z2) (y2*z0) (RatP.blk (q:=y0*z2) (H.o 10)) (anyV (H.o 10)) (anyV (H.o 11)) (Nat.le_trans (Nat.add_le_add k10 k11) (by decide))) ?_
 refine RunD.en ?_
 refine Run.cO 10 softRat (fun _ _ _ H=>qMul ((y0*z2)-(y2*z0)) x3 (RatP.blk (q:=(y0*z2)-(y2*z0)) (H.o 10)) (anyV (H.o 10)) (anyV (H.f 3)) (Nat.le_trans (Nat.add_le_add k12 ex3) (by decide))) ?_
 refine Run.cO 5 softRat (fun _ _ _ H=>qAdd (((0:Rat)+(((y2*z3)-(y3*z2))*x0))+(((y3*z0)-(y0*z3))*x2)) (((y0*z2)-(y2*z0))*x3) (RatP.blk (q:=((0:Rat)+(((y2*z3)-(y3*z2))*x0))+(((y3*z0)-(y0*z3))*x2)) (H.o 5)) (anyV (H.o 5)) (anyV (H.o 10)) (Nat.le_trans (Nat.add_le_add k9 k13) (by decide))) ?_
 refine Run.cO 5 softRat (fun _ _ _ H=>qNeg ((((0:Rat)+(((y2*z3)-(y3*z2))*x0))+(((y3*z0)-(y0*z3))*x2))+(((y0*z2)-(y2*z0))*x3)) (RatP.blk (q:=(((0:Rat)+(((y2*z3)-(y3*z2))*x0))+(((y3*z0)-(y0*z3))*x2))+(((y0*z2)-(y2*z0))*x3)) (H.o 5)) (anyV (H.o 5)) (Nat.le_trans k14 (by decide))) ?_
 exact Run.rN (φ:=RatP (-(mn3 x0 x2 x3 y0 y2 y3 z0 z2 z3))) 5 (fun _ _ _ H=>⟨H.ow 5,VPe (φ:=RatP) (rfl) (H.o 5)⟩)
theorem acm2{w1_0 w1_1 w1_2 w1_3 w1_4 w1_5 w1_6 w1_7 w1_8 w1_9 w1_10 w1_11:Value}{b1:Nat}(x0 x1 x2 x3 y0 y1 y2 y3 z0 z1 z2 z3:Rat)(B1:W.heap[b1]? = some (.cells #[w1_0,w1_1,w1_2,w1_3,w1_4,w1_5,w1_6,w1_7,w1_8,w1_9,w1_10,w1_11] 249 (0,0)))(hw1_0:(RatP x0).p S w1_0 W)(hw1_1:(RatP x1).p S w1_1 W)(hw1_2:(RatP x2).p S w1_2 W)(hw1_3:(RatP x3).p S w1_3 W)(hw1_4:(RatP y0).p S w1_4 W)(hw1_5:(RatP y1).p S w1_5 W)(hw1_6:(RatP y2).p S w1_6 W)(hw1_7:(RatP y3).p S w1_7 W)(hw1_8:(RatP z0).p S w1_8 W)(hw1_9:(RatP z1).p S w1_9 W)(hw1_10:(RatP z2).p S w1_10 W)(hw1_11:(RatP z3).p S w1_11 W)(p0:ht x0+ht x1+ht x2+ht x3≤40000)(p1:ht y0+ht y1+ht y2+ht y3≤40000)(p2:ht z0+ht z1+ht z2+ht z3≤40000):Calls Tryz.prog 184 #[.int .i64 2,.pointer (some ⟨b1,0,none⟩)] W (Ret (RatP (mn3 x0 x1 x3 y0 y1 y3 z0 z1 z3)) Z0 W):=by
 obtain⟨ex0,ex1,ex2,ex3,ey0,ey1,ey2,ey3,ez0,ez1,ez2,ez3⟩:ht x0≤40000∧ht x1≤40000∧ht x2≤40000∧ht x3≤40000∧ht y0≤40000∧ht y1≤40000∧ht y2≤40000∧ht y3≤40000∧ht z0≤40000∧ht z1≤40000∧ht z2≤40000∧ht z3≤40000:=by omega
 have k0:=hb_mul ey1 ez3 80000
 have k1:=hb_mul ey3 ez1 80000
 have k2:=hb_sub k0 k1 160000
 have k3:=hb_mul k2 ex0 200000
 have k4:=hb_add (Nat.le_of_eq ht_zero) k3 200002
 have k5:=hb_mul ey3 ez0 80000
 have k6:=hb_mul ey0 ez3 80000
 have k7:=hb_sub k5 k6 160000
 have k8:=hb_mul k7 ex1 200000
 have k9:=hb_add k4 k8 400002
 have k10:=hb_mul ey0 ez1 80000
 have k11:=hb_mul ey1 ez0 80000
 have k12:=hb_sub k10 k11 160000
 have k13:=hb_mul k12 ex3 200000
 have k14:=hb_add k9 k13 600002
 refine Run.goP (S:=S) ((Pack.nil.k (.int .i64 2) [] (.s (.o (.c (.int .i64 2))))).bv B1 none 12 (AllF.rat hw1_0 (AllF.rat hw1_1 (AllF.rat hw1_2 (AllF.rat hw1_3 (AllF.rat hw1_4 (AllF.rat hw1_5 (AllF.rat hw1_6 (AllF.rat hw1_7 (AllF.rat hw1_8 (AllF.rat hw1_9 (AllF.rat hw1_10 (AllF.rat hw1_11 AllF.z))))))))))))) Tryz.func184 rfl ?_
 refine Run.a0 3 31 1 (fun cp1=>?_)
 refine Run.ap 31 2 1 cp1 3 (fun cp2=>?_)
 refine Run.ap 31 2 2 cp2 4 (fun cp3=>?_)
 refine Run.dr ?_
 refine RunD.en ?_
 refine Run.dr ?_
 refine RunD.cO 6 softRat (fun _ _ _ H=>qMul y1 z3 (RatP.blk (H.oz 6)) (anyV (H.f 5)) (anyV (H.f 11)) (Nat.le_trans (Nat.add_le_add ey1 ez3) (by decide))) ?_
 refine RunD.en ?_
 refine Run.dr ?_
 refine RunD.cO 7 softRat (fun _ _ _ H=>qMul y3 z1 (RatP.blk (H.oz 7)) (anyV (H.f 7)) (anyV (H.f 9)) (Nat.le_trans (Nat.add_le_add ey3 ez1) (by decide))) ?_
 refine RunD.cO 6 softRat (fun _ _ _ H=>qSub (y1*z3) (y3*z1) (RatP.blk (q:=y1*z3) (H.o 6)) (anyV (H.o 6)) (anyV (H.o 7)) (Nat.le_trans (Nat.add_le_add k0 k1) (by decide))) ?_
 refine RunD.en ?_
 refine Run.cO 6 softRat (fun _ _ _ H=>qMul ((y1*z3)-(y3*z1)) x0 (RatP.blk (q:=(y1*z3)-(y3*z1)) (H.o 6)) (anyV (H.o 6)) (anyV (H.f 0)) (Nat.le_trans (Nat.add_le_add k2 ex0) (by decide))) ?_
 refine Run.cO 5 softRat (fun _ _ _ H=>qAdd (0:Rat) (((y1*z3)-(y3*z1))*x0) (RatP.blk (H.oz 5)) (anyV (H.oz 5)) (anyV (H.o 6)) (Nat.le_trans (Nat.add_le_add (Nat.le_of_eq ht_zero) k3) (by decide))) ?_
 refine Run.dr ?_
 refine RunD.en ?_
 refine Run.dr ?_
 refine RunD.cO 8 softRat (fun _ _ _ H=>qMul y3 z0 (RatP.blk (H.oz 8)) (anyV (H.f 7)) (anyV (H.f 8)) (Nat.le_trans (Nat.add_le_add ey3 ez0) (by decide))) ?_
 refine RunD.en ?_
 refine Run.dr ?_
 refine RunD.cO 9 softRat (fun _ _ _ H=>qMul y0 z3 (RatP.blk (H.oz 9)) (anyV (H.f 4)) (anyV (H.f 11)) (Nat.le_trans (Nat.add_le_add ey0 ez3) (by decide))) ?_
 refine RunD.cO 8 softRat (fun _ _ _ H=>qSub (y3*z0) (y0*z3) (RatP.blk (q:=y3*z0) (H.o 8)) (anyV (H.o 8)) (anyV (H.o 9)) (Nat.le_trans (Nat.add_le_add k5 k6) (by decide))) ?_
 refine RunD.en ?_
 refine Run.cO 8 softRat (fun _ _ _ H=>qMul ((y3*z0)-(y0*z3)) x1 (RatP.blk (q:=(y3*z0)-(y0*z3)) (H.o 8)) (anyV (H.o 8)) (anyV (H.f 1)) (Nat.le_trans (Nat.add_le_add k7 ex1) (by decide))) ?_
 refine Run.cO 5 softRat (fun _ _ _ H=>qAdd ((0:Rat)+(((y1*z3)-(y3*z1))*x0)) (((y3*z0)-(y0*z3))*x1) (RatP.blk (q:=(0:Rat)+(((y1*z3)-(y3*z1))*x0)) (H.o 5)) (anyV (H.o 5)) (anyV (H.o 8)) (Nat.le_trans (Nat.add_le_add k4 k8) (by decide))) ?_
 refine Run.dr ?_
 refine RunD.en ?_
 refine Run.dr ?_
 refine RunD.cO 10 softRat (fun _ _ _ H=>qMul y0 z1 (RatP.blk (H.oz 10)) (anyV (H.f 4)) (anyV (H.f 9)) (Nat.le_trans (Nat.add_le_add ey0 ez1) (by decide))) ?_
 refine RunD.en ?_
 refine Run.dr ?_
 refine RunD.cO 11 softRat (fun _ _ _ H=>qMul y1 z0 (RatP.blk (H.oz 11)) (anyV (H.f 5)) (anyV (H.f 8)) (Nat.le_trans (Nat.add_le_add ey1 ez0) (by decide))) ?_
 refine RunD.cO 10 softRat (fun _ _ _ H=>qSub (y0*z1) (y1*z0) (RatP.blk (q:=y0*z1) (H.o 10)) (anyV (H.o 10)) (anyV (H.o 11)) (Nat.le_trans (Nat.add_le_add k10 k11) (by decide))) ?_
 refine RunD.en ?_
 refine Run.cO 10 softRat (fun _ _ _ H=>qMul ((y0*z1)-(y1*z0)) x3 (RatP.blk (q:=(y0*z1)-(y1*z0)) (H.o 10)) (anyV (H.o 10)) (anyV (H.f 3)) (Nat.le_trans (Nat.add_le_add k12 ex3) (by decide))) ?_
 refine Run.cO 5 softRat (fun _ _ _ H=>qAdd (((0:Rat)+(((y1*z3)-(y3*z1))*x0))+(((y3*z0)-(y0*z3))*x1)) (((y0*z1)-(y1*z0))*x3) (RatP.blk (q:=((0:Rat)+(((y1*z3)-(y3*z1))*x0))+(((y3*z0)-(y0*z3))*x1)) (H.o 5)) (anyV (H.o 5)) (anyV (H.o 10)) (Nat.le_trans (Nat.add_le_add k9 k13) (by decide))) ?_
 exact Run.rN (φ:=RatP (mn3 x0 x1 x3 y0 y1 y3 z0 z1 z3)) 5 (fun _ _ _ H=>⟨H.ow 5,VPe (φ:=RatP) (rfl) (H.o 5)⟩)
theorem acm3{w1_0 w1_1 w1_2 w1_3 w1_4 w1_5 w1_6 w1_7 w1_8 w1_9 w1_10 w1_11:Value}{b1:Nat}(x0 x1 x2 x3 y0 y1 y2 y3 z0 z1 z2 z3:Rat)(B1:W.heap[b1]? = some (.cells #[w1_0,w1_1,w1_2,w1_3,w1_4,w1_5,w1_6,w1_7,w1_8,w1_9,w1_10,w1_11] 249 (0,0)))(hw1_0:(RatP x0).p S w1_0 W)(hw1_1:(RatP x1).p S w1_1 W)(hw1_2:(RatP x2).p S w1_2 W)(hw1_3:(RatP x3).p S w1_3 W)(hw1_4:(RatP y0).p S w1_4 W)(hw1_5:(RatP y1).p S w1_5 W)(hw1_6:(RatP y2).p S w1_6 W)(hw1_7:(RatP y3).p S w1_7 W)(hw1_8:(RatP z0).p S w1_8 W)(hw1_9:(RatP z1).p S w1_9 W)(hw1_10:(RatP z2).p S w1_10 W)(hw1_11:(RatP z3).p S w1_11 W)(p0:ht x0+ht x1+ht x2+ht x3≤40000)(p1:ht y0+ht y1+ht y2+ht y3≤40000)(p2:ht z0+ht z1+ht z2+ht z3≤40000):Calls Tryz.prog 184 #[.int .i64 3,.pointer (some ⟨b1,0,none⟩)] W (Ret (RatP (-(mn3 x0 x1 x2 y0 y1 y2 z0 z1 z2))) Z0 W):=by
 obtain⟨ex0,ex1,ex2,ex3,ey0,ey1,ey2,ey3,ez0,ez1,ez2,ez3⟩:ht x0≤40000∧ht x1≤40000∧ht x2≤40000∧ht x3≤40000∧ht y0≤40000∧ht y1≤40000∧ht y2≤40000∧ht y3≤40000∧ht z0≤40000∧ht z1≤40000∧ht z2≤40000∧ht z3≤40000:=by omega
 have k0:=hb_mul ey1 ez2 80000
 have k1:=hb_mul ey2 ez1 80000
 have k2:=hb_sub k0 k1 160000
 have k3:=hb_mul k2 ex0 200000
 have k4:=hb_add (Nat.le_of_eq ht_zero) k3 200002
 have k5:=hb_mul ey2 ez0 80000
 have k6:=hb_mul ey0 ez2 80000
 have k7:=hb_sub k5 k6 160000
 have k8:=hb_mul k7 ex1 200000
 have k9:=hb_add k4 k8 400002
 have k10:=hb_mul ey0 ez1 80000
 have k11:=hb_mul ey1 ez0 80000
 have k12:=hb_sub k10 k11 160000
 have k13:=hb_mul k12 ex2 200000
 have k14:=hb_add k9 k13 600002
 have k15:=hb_neg k14
 refine Run.goP (S:=S) ((Pack.nil.k (.int .i64 3) [] (.s (.o (.c (.int .i64 3))))).bv B1 none 12 (AllF.rat hw1_0 (AllF.rat hw1_1 (AllF.rat hw1_2 (AllF.rat hw1_3 (AllF.rat hw1_4 (AllF.rat hw1_5 (AllF.rat hw1_6 (AllF.rat hw1_7 (AllF.rat hw1_8 (AllF.rat hw1_9 (AllF.rat hw1_10 (AllF.rat hw1_11 AllF.z))))))))))))) Tryz.func184 rfl ?_
 refine Run.a0 3 31 1 (fun cp1=>?_)
 refine Run.ap 31 2 1 cp1 3 (fun cp2=>?_)
 refine Run.ap 31 2 2 cp2 4 (fun cp3=>?_)
 refine Run.dr ?_
 refine RunD.en ?_
 refine Run.dr ?_
 refine RunD.cO 6 softRat (fun _ _ _ H=>qMul y1 z2 (RatP.blk (H.oz 6)) (anyV (H.f 5)) (anyV (H.f 10)) (Nat.le_trans (Nat.add_le_add ey1 ez2) (by decide))) ?_
 refine RunD.en ?_
 refine Run.dr ?_
 refine RunD.cO 7 softRat (fun _ _ _ H=>qMul y2 z1 (RatP.blk (H.oz 7)) (anyV (H.f 6)) (anyV (H.f 9)) (Nat.le_trans (Nat.add_le_add ey2 ez1) (by decide))) ?_
 refine RunD.cO 6 softRat (fun _ _ _ H=>qSub (y1*z2) (y2*z1) (RatP.blk (q:=y1*z2) (H.o 6)) (anyV (H.o 6)) (anyV (H.o 7)) (Nat.le_trans (Nat.add_le_add k0 k1) (by decide))) ?_
 refine RunD.en ?_
 refine Run.cO 6 softRat (fun _ _ _ H=>qMul ((y1*z2)-(y2*z1)) x0 (RatP.blk (q:=(y1*z2)-(y2*z1)) (H.o 6)) (anyV (H.o 6)) (anyV (H.f 0)) (Nat.le_trans (Nat.add_le_add k2 ex0) (by decide))) ?_
 refine Run.cO 5 softRat (fun _ _ _ H=>qAdd (0:Rat) (((y1*z2)-(y2*z1))*x0) (RatP.blk (H.oz 5)) (anyV (H.oz 5)) (anyV (H.o 6)) (Nat.le_trans (Nat.add_le_add (Nat.le_of_eq ht_zero) k3) (by decide))) ?_
 refine Run.dr ?_
 refine RunD.en ?_
 refine Run.dr ?_
 refine RunD.cO 8 softRat (fun _ _ _ H=>qMul y2 z0 (RatP.blk (H.oz 8)) (anyV (H.f 6)) (anyV (H.f 8)) (Nat.le_trans (Nat.add_le_add ey2 ez0) (by decide))) ?_
 refine RunD.en ?_
 refine Run.dr ?_
 refine RunD.cO 9 softRat (fun _ _ _ H=>qMul y0 z2 (RatP.blk (H.oz 9)) (anyV (H.f 4)) (anyV (H.f 10)) (Nat.le_trans (Nat.add_le_add ey0 ez2) (by decide))) ?_
 refine RunD.cO 8 softRat (fun _ _ _ H=>qSub (y2*z0) (y0*z2) (RatP.blk (q:=y2*z0) (H.o 8)) (anyV (H.o 8)) (anyV (H.o 9)) (Nat.le_trans (Nat.add_le_add k5 k6) (by decide))) ?_
 refine RunD.en ?_
 refine Run.cO 8 softRat (fun _ _ _ H=>qMul ((y2*z0)-(y0*z2)) x1 (RatP.blk (q:=(y2*z0)-(y0*z2)) (H.o 8)) (anyV (H.o 8)) (anyV (H.f 1)) (Nat.le_trans (Nat.add_le_add k7 ex1) (by decide))) ?_
 refine Run.cO 5 softRat (fun _ _ _ H=>qAdd ((0:Rat)+(((y1*z2)-(y2*z1))*x0)) (((y2*z0)-(y0*z2))*x1) (RatP.blk (q:=(0:Rat)+(((y1*z2)-(y2*z1))*x0)) (H.o 5)) (anyV (H.o 5)) (anyV (H.o 8)) (Nat.le_trans (Nat.add_le_add k4 k8) (by decide))) ?_
 refine Run.dr ?_
 refine RunD.en ?_
 refine Run.dr ?_
 refine RunD.cO 10 softRat (fun _ _ _ H=>qMul y0 z1 (RatP.blk (H.oz 10)) (anyV (H.f 4)) (anyV (H.f 9)) (Nat.le_trans (Nat.add_le_add ey0 ez1) (by decide))) ?_
 refine RunD.en ?_
 refine Run.dr ?_
 refine RunD.cO 11 softRat (fun _ _ _ H=>qMul y1 z0 (RatP.blk (H.oz 11)) (anyV (H.f 5)) (anyV (H.f 8)) (Nat.le_trans (Nat.add_le_add ey1 ez0) (by decide))) ?_
 refine RunD.cO 10 softRat (fun _ _ _ H=>qSub (y0*z1) (y1*z0) (RatP.blk (q:=y0*z1) (H.o 10)) (anyV (H.o 10)) (anyV (H.o 11)) (Nat.le_trans (Nat.add_le_add k10 k11) (by decide))) ?_
 refine RunD.en ?_
 refine Run.cO 10 softRat (fun _ _ _ H=>qMul ((y0*z1)-(y1*z0)) x2 (RatP.blk (q:=(y0*z1)-(y1*z0)) (H.o 10)) (anyV (H.o 10)) (anyV (H.f 2)) (Nat.le_trans (Nat.add_le_add k12 ex2) (by decide))) ?_
 refine Run.cO 5 softRat (fun _ _ _ H=>qAdd (((0:Rat)+(((y1*z2)-(y2*z1))*x0))+(((y2*z0)-(y0*z2))*x1)) (((y0*z1)-(y1*z0))*x2) (RatP.blk (q:=((0:Rat)+(((y1*z2)-(y2*z1))*x0))+(((y2*z0)-(y0*z2))*x1)) (H.o 5)) (anyV (H.o 5)) (anyV (H.o 10)) (Nat.le_trans (Nat.add_le_add k9 k13) (by decide))) ?_
 refine Run.cO 5 softRat (fun _ _ _ H=>qNeg ((((0:Rat)+(((y1*z2)-(y2*z1))*x0))+(((y2*z0)-(y0*z2))*x1))+(((y0*z1)-(y1*z0))*x2)) (RatP.blk (q:=(((0:Rat)+(((y1*z2)-(y2*z1))*x0))+(((y2*z0)-(y0*z2))*x1))+(((y0*z1)-(y1*z0))*x2)) (H.o 5)) (anyV (H.o 5)) (Nat.le_trans k14 (by decide))) ?_
 exact Run.rN (φ:=RatP (-(mn3 x0 x1 x2 y0 y1 y2 z0 z1 z2))) 5 (fun _ _ _ H=>⟨H.ow 5,VPe (φ:=RatP) (rfl) (H.o 5)⟩)
theorem acr{w0_0 w0_1 w0_2 w0_3 w0_4 w0_5 w0_6 w0_7 w0_8 w0_9 w0_10 w0_11:Value}{b0:Nat}(n0:Nat)(d0 d1 d2:Ci)(B0:∃ r:List Value,W.heap[b0]? = some (.cells ⟨[w0_0,w0_1,w0_2,w0_3,w0_4,w0_5,w0_6,w0_7,w0_8,w0_9,w0_10,w0_11]++r⟩ 133 (0,0)))(t0_0:(RingP d0).p S (.agg #[w0_0,w0_1,w0_2,w0_3]) W)(t0_1:(RingP d1).p S (.agg #[w0_4,w0_5,w0_6,w0_7]) W)(t0_2:(RingP d2).p S (.agg #[w0_8,w0_9,w0_10,w0_11]) W)(p0:ht d0.a+ht d0.b.re+ht d0.b.im+ht d0.c≤40000)(p1:ht d1.a+ht d1.b.re+ht d1.b.im+ht d1.c≤40000)(p2:ht d2.a+ht d2.b.re+ht d2.b.im+ht d2.c≤40000):Calls Tryz.prog 90 #[.slice (some ⟨b0,0,none⟩) 3 (n0+3)] W (Ret (RingP (Ci.acr d0 d1 d2)) S W):=by
 obtain⟨ead0,ebd0,ecd0⟩:=hb_ci p0
 obtain⟨ead1,ebd1,ecd1⟩:=hb_ci p1
 obtain⟨ead2,ebd2,ecd2⟩:=hb_ci p2
 have k0:=mn3_hb ead0 ecd0 ebd0.2 ead1 ecd1 ebd1.2 ead2 ecd2 ebd2.2
 have k1:=hb_neg (mn3_hb ead0 ecd0 ebd0.1 ead1 ecd1 ebd1.1 ead2 ecd2 ebd2.1)
 have k2:=HB.mul (HB.two (z:=Cx.mk (- (mn3 d0.a d0.c d0.b.re d1.a d1.c d1.b.re d2.a d2.c d2.b.re)) 0) k1 (Nat.le_of_eq ht_zero) 600002) (⟨by decide,by decide⟩:HB (Cx.ofInt 0 1) 3) 1200010
 have k3:=HB.add (HB.two (z:=Cx.mk (mn3 d0.a d0.c d0.b.im d1.a d1.c d1.b.im d2.a d2.c d2.b.im) 0) k0 (Nat.le_of_eq ht_zero) 600002) k2 1800012
 have k4:=hb_neg (mn3_hb ead0 ebd0.1 ebd0.2 ead1 ebd1.1 ebd1.2 ead2 ebd2.1 ebd2.2)
 have k5:=HB.scale k3 (by decide:ht (Rat.divInt (-1) (2))≤4) 1800016
 have k6:=mn3_hb ecd0 ebd0.1 ebd0.2 ecd1 ebd1.1 ebd1.2 ecd2 ebd2.1 ebd2.2
 refine Run.goP (S:=S) (Pack.nil.bm B0 3 (n0+3) 12 (AllF.app (ringCells t0_0) (AllF.app (ringCells t0_1) (ringCells t0_2)))) Tryz.func90 rfl ?_
 refine Run.cR sp2Rat (fun _ _ _ H=>eParts d0.b (NumP.mk (H.f 1) (H.f 2))) ?_
 refine Run.cR sp2Rat (fun _ _ _ H=>eParts d1.b (NumP.mk (H.f 5) (H.f 6))) ?_
 refine Run.cR sp2Rat (fun _ _ _ H=>eParts d2.b (NumP.mk (H.f 9) (H.f 10))) ?_
 refine Run.cR spRat (fun _ _ _ H=>qNewRat (-1) 2 (by decide) (by decide) (by decide) (by decide) (by decide)) ?_
 refine Run.cR spRat (fun _ _ _ H=>retZ (acm2 d0.a d0.c d0.b.re d0.b.im d1.a d1.c d1.b.re d1.b.im d2.a d2.c d2.b.re d2.b.im (H.b 2) (H.f 0) (H.f 3) (H.f 12) (H.f 13) (H.f 4) (H.f 7) (H.f 14) (H.f 15) (H.f 8) (H.f 11) (H.f 16) (H.f 17) (by omega) (by omega) (by omega))) ?_
 refine Run.cR spRat (fun _ _ _ H=>retZ (acm3 d0.a d0.c d0.b.re d0.b.im d1.a d1.c d1.b.re d1.b.im d2.a d2.c d2.b.re d2.b.im (H.b 2) (H.f 0) (H.f 3) (H.f 12) (H.f 13) (H.f 4) (H.f 7) (H.f 14) (H.f 15) (H.f 8) (H.f 11) (H.f 16) (H.f 17) (by omega) (by omega) (by omega))) ?_
 refine Run.cR spNum (fun _ _ _ H=>eReal (mn3 d0.a d0.c d0.b.im d1.a d1.c d1.b.im d2.a d2.c d2.b.im) (H.f 19)) ?_
 refine Run.cR spNum (fun _ _ _ H=>eReal (-(mn3 d0.a d0.c d0.b.re d1.a d1.c d1.b.re d2.a d2.c d2.b.re)) (H.f 20)) ?_
 refine Run.cR spNum (fun _ _ _ H=>eInt 0 1 (by decide) (by decide) (by decide) (by decide)) ?_
 refine Run.cR spNum (fun _ _ _ H=>eNMul (Cx.mk (-(mn3 d0.a d0.c d0.b.re d1.a d1.c d1.b.re d2.a d2.c d2.b.re)) 0) (Cx.ofInt 0 1) (NumP.mk (H.f 23) (H.f 24)) (NumP.mk (H.f 25) (H.f 26)) (Nat.le_trans (Nat.add_le_add (Nat.add_le_add (Nat.add_le_add k1 (Nat.le_of_eq ht_zero)) (⟨by decide,by decide⟩:HB (Cx.ofInt 0 1) 3).1) (⟨by decide,by decide⟩:HB (Cx.ofInt 0 1) 3).2) (by decide))) ?_
 refine Run.cR spNum (fun _ _ _ H=>eAdd (Cx.mk (mn3 d0.a d0.c d0.b.im d1.a d1.c d1.b.im d2.a d2.c d2.b.im) 0) ((Cx.mk (-(mn3 d0.a d0.c d0.b.re d1.a d1.c d1.b.re d2.a d2.c d2.b.re)) 0).mul (Cx.ofInt 0 1)) (NumP.mk (H.f 21) (H.f 22)) (NumP.mk (H.f 27) (H.f 28)) (Nat.le_trans (Nat.add_le_add (Nat.add_le_add (Nat.add_le_add k0 (Nat.le_of_eq ht_zero)) k2.1) k2.2) (by decide))) ?_
 refine Run.dr ?_
 refine RunD.cR spRat (fun _ _ _ H=>retZ (acm1 d0.a d0.c d0.b.re d0.b.im d1.a d1.c d1.b.re d1.b.im d2.a d2.c d2.b.re d2.b.im (H.b 2) (H.f 0) (H.f 3) (H.f 12) (H.f 13) (H.f 4) (H.f 7) (H.f 14) (H.f 15) (H.f 8) (H.f 11) (H.f 16) (H.f 17) (by omega) (by omega) (by omega))) ?_
 refine RunD.cR spNum (fun _ _ _ H=>eScale ((Cx.mk (mn3 d0.a d0.c d0.b.im d1.a d1.c d1.b.im d2.a d2.c d2.b.im) 0).add ((Cx.mk (-(mn3 d0.a d0.c d0.b.re d1.a d1.c d1.b.re d2.a d2.c d2.b.re)) 0).mul (Cx.ofInt 0 1))) (Rat.divInt (-1) 2) (NumP.mk (H.f 29) (H.f 30)) (RatP.n (H.f 18)) (Nat.le_trans (Nat.add_le_add (Nat.add_le_add k3.1 k3.2) (by decide:ht (Rat.divInt (-1) (2))≤4)) (by decide))) ?_
 refine RunD.cR spRat (fun _ _ _ H=>retZ (acm0 d0.a d0.c d0.b.re d0.b.im d1.a d1.c d1.b.re d1.b.im d2.a d2.c d2.b.re d2.b.im (H.b 2) (H.f 0) (H.f 3) (H.f 12) (H.f 13) (H.f 4) (H.f 7) (H.f 14) (H.f 15) (H.f 8) (H.f 11) (H.f 16) (H.f 17) (by omega) (by omega) (by omega))) ?_
 refine RunD.en ?_
 exact Run.rR (fun _ _ _ H=>VPe (φ:=RingP) (rfl) (RingP.mk (H.f 31) (H.f 32) (H.f 33) (H.f 34)))
theorem ahd{v0 v1:Value}(a b:Ci)(t0:(RingP a).p S v0 W)(t1:(RingP b).p S v1 W)(p0:ht a.a+ht a.b.re+ht a.b.im+ht a.c+(ht b.a+ht b.b.re+ht b.b.im+ht b.c)≤67108000):Calls Tryz.prog 92 #[v0,v1] W (RetV (.bool (a.ahd b)) W):=by
 have k0:=hc_sub a.b b.b
 refine Run.goP (S:=S) ((Pack.nil.s spRing t0).s spRing t1) Tryz.func92 rfl ?_
 refine Run.cR spNum (fun _ _ _ H=>eSub a.b b.b (NumP.mk (H.f 1) (H.f 2)) (NumP.mk (H.f 5) (H.f 6)) (by omega)) ?_
 refine Run.cR sp2Rat (fun _ _ _ H=>eParts (a.b.sub b.b) (NumP.mk (H.f 8) (H.f 9))) ?_
 refine Run.dr ?_
 refine RunD.cV [.int .i64 (icmp (a.a.num*(b.a.den:Int)) (b.a.num*(a.a.den:Int)))] kb (fun _ _ _ H=>qCmp a.a b.a (H.f 0) (H.f 4) (by omega)) ?_
 refine RunD.un (icmp (a.a.num*(b.a.den:Int)) (b.a.num*(a.a.den:Int))) (wneg _ _) ?_
 refine RunD.cV [.int .i64 (((a.b.sub b.b).re).num.sign)] kb (fun _ _ _ H=>qSign ((a.b.sub b.b).re) (H.f 10)) ?_
 refine RunD.cV [.int .i64 (((a.b.sub b.b).im).num.sign)] kb (fun _ _ _ H=>qSign ((a.b.sub b.b).im) (H.f 11)) ?_
 refine RunD.cV [.int .i64 (icmp (a.c.num*(b.c.den:Int)) (b.c.num*(a.c.den:Int)))] kb (fun _ _ _ H=>qCmp a.c b.c (H.f 3) (H.f 7) (by omega)) ?_
 refine RunD.en ?_
 refine Run.ic (-(icmp (a.a.num*(b.a.den:Int)) (b.a.num*(a.a.den:Int)))) 0 ((-(icmp (a.a.num*(b.a.den:Int)) (b.a.num*(a.a.den:Int)))) != 0) ?_
 refine (Bool.eq_false_or_eq_true ((-(icmp (a.a.num*(b.a.den:Int)) (b.a.num*(a.a.den:Int)))) != 0)).elim (fun c1=>?_) (fun c1=>?_)
 · refine Run.kn c1 ?_
   refine Run.ic (-(icmp (a.a.num*(b.a.den:Int)) (b.a.num*(a.a.den:Int)))) 0 (decide ((-(icmp (a.a.num*(b.a.den:Int)) (b.a.num*(a.a.den:Int))))<0)) ?_
   exact Run.rV (V' := .bool (decide ((-(icmp (a.a.num*(b.a.den:Int)) (b.a.num*(a.a.den:Int))))<0))) ((congrArg Value.bool (by simp [Ci.ahd,fstN,c1])))
 · refine Run.kn c1 ?_
   refine Run.ic (((a.b.sub b.b).re).num.sign) 0 ((((a.b.sub b.b).re).num.sign) != 0) ?_
   refine (Bool.eq_false_or_eq_true ((((a.b.sub b.b).re).num.sign) != 0)).elim (fun c2=>?_) (fun c2=>?_)
   · refine Run.kn c2 ?_
     refine Run.ic (((a.b.sub b.b).re).num.sign) 0 (decide ((((a.b.sub b.b).re).num.sign)<0)) ?_
     exact Run.rV (V' := .bool (decide ((((a.b.sub b.b).re).num.sign)<0))) ((congrArg Value.bool (by simp [Ci.ahd,fstN,c1,c2])))
   · refine Run.kn c2 ?_
     refine Run.ic (((a.b.sub b.b).im).num.sign) 0 ((((a.b.sub b.b).im).num.sign) != 0) ?_
     refine (Bool.eq_false_or_eq_true ((((a.b.sub b.b).im).num.sign) != 0)).elim (fun c3=>?_) (fun c3=>?_)
     · refine Run.kn c3 ?_
       refine Run.ic (((a.b.sub b.b).im).num.sign) 0 (decide ((((a.b.sub b.b).im).num.sign)<0)) ?_
       exact Run.rV (V' := .bool (decide ((((a.b.sub b.b).im).num.sign)<0))) ((congrArg Value.bool (by simp [Ci.ahd,fstN,c1,c2,c3])))
     · refine Run.kn c3 ?_
       refine Run.ic (icmp (a.c.num*(b.c.den:Int)) (b.c.num*(a.c.den:Int))) 0 ((icmp (a.c.num*(b.c.den:Int)) (b.c.num*(a.c.den:Int))) != 0) ?_
       refine (Bool.eq_false_or_eq_true ((icmp (a.c.num*(b.c.den:Int)) (b.c.num*(a.c.den:Int))) != 0)).elim (fun c4=>?_) (fun c4=>?_)
       · refine Run.kn c4 ?_
         refine Run.ic (icmp (a.c.num*(b.c.den:Int)) (b.c.num*(a.c.den:Int))) 0 (decide ((icmp (a.c.num*(b.c.den:Int)) (b.c.num*(a.c.den:Int)))<0)) ?_
         exact Run.rV (V' := .bool (decide ((icmp (a.c.num*(b.c.den:Int)) (b.c.num*(a.c.den:Int)))<0))) ((congrArg Value.bool (by simp [Ci.ahd,fstN,c1,c2,c3,c4])))
       · refine Run.kn c4 ?_
         exact Run.rV (V' := .bool false) ((congrArg Value.bool (by simp [Ci.ahd,fstN,c1,c2,c3,c4])))
theorem fo4(a b c:Ci)(p0:dsOk (rci a)=true)(p1:dsOk (rci b)=true)(p2:dsOk (rci c)=true)(p3:Ci.all3 a b c=true):Calls Tryz.prog 21 #[ciV a,ciV b,ciV c] W (RetV (.tuple #[rciV (Ci.f4P a b c),rciV (Ci.f4Q a b c),.int .i64 (Ci.f4E a b c)]) W):=by
 have f0:=cifits_ht (dsOk_c p0).1
 have f1:=cifits_ht (dsOk_c p1).1
 have f2:=cifits_ht (dsOk_c p2).1
 obtain⟨g1,g2,g3⟩:=f4_ht f0 f1 f2
 have g4:=acr_ht f0 f1 f2
 have g5:=plus_ht a b
 have g6:=out_hs (Ci.acr a b c)
 unfold Ci.f4s at g1
 unfold Ci.f4x Ci.f4s at g2
 unfold Ci.f4y Ci.f4s at g3
 refine Run.goP (S:=Z0) (((Pack.nil.k (ciV a) (ciC a).toList (.s (.agg (ks 0 16)))).k (ciV b) (ciC b).toList (.s (.agg (ks 0 16)))).k (ciV c) (ciC c).toList (.s (.agg (ks 0 16)))) Tryz.func21 rfl ?_
 refine Run.cB (n:=3) (T:=133) (φs:=ringF [a,b,c]) (fun _ _ _ H=>pl3Y 29 a b c (H.b 5) p0 p1 p2) (fun cp1=>?_)
 refine Run.cV [.bool ([b.touch a].all id&&[c.touch a,c.touch b].all id)] kb (fun _ _ _ H=>tch3 cp1 a b c (H.br 6) (RingP.mk (H.f 0) (H.f 1) (H.f 2) (H.f 3)) (RingP.mk (H.f 4) (H.f 5) (H.f 6) (H.f 7)) (RingP.mk (H.f 8) (H.f 9) (H.f 10) (H.f 11)) (by omega) (by omega) (by omega)) ?_
 refine Run.kn p3 ?_
 refine Run.dr ?_
 refine RunD.cR spRing (fun _ _ _ H=>dsPlus a b (RingP.mk (H.f 0) (H.f 1) (H.f 2) (H.f 3)) (RingP.mk (H.f 4) (H.f 5) (H.f 6) (H.f 7)) (by omega)) ?_
 refine RunD.cR spRing (fun _ _ _ H=>dsPlus (a.plus b) c (RingP.mk (H.f 12) (H.f 13) (H.f 14) (H.f 15)) (RingP.mk (H.f 8) (H.f 9) (H.f 10) (H.f 11)) (by omega)) ?_
 refine RunD.cR spRing (fun _ _ _ H=>acr cp1 a b c (H.br 6) (RingP.mk (H.f 0) (H.f 1) (H.f 2) (H.f 3)) (RingP.mk (H.f 4) (H.f 5) (H.f 6) (H.f 7)) (RingP.mk (H.f 8) (H.f 9) (H.f 10) (H.f 11)) (by omega) (by omega) (by omega)) ?_
 refine RunD.en ?_
 refine Run.dr ?_
 refine RunD.cR spRing (fun _ _ _ H=>dsPlus ((a.plus b).plus c) (Ci.acr a b c) (RingP.mk (H.f 16) (H.f 17) (H.f 18) (H.f 19)) (RingP.mk (H.f 20) (H.f 21) (H.f 22) (H.f 23)) (by omega)) ?_
 refine RunD.cR spRing (fun _ _ _ H=>dsOut (Ci.acr a b c) (RingP.mk (H.f 20) (H.f 21) (H.f 22) (H.f 23)) (by omega)) ?_
 refine RunD.cR spRing (fun _ _ _ H=>dsPlus ((a.plus b).plus c) ((Ci.acr a b c).out) (RingP.mk (H.f 16) (H.f 17) (H.f 18) (H.f 19)) (RingP.mk (H.f 28) (H.f 29) (H.f 30) (H.f 31)) (by omega)) ?_
 refine RunD.en ?_
 refine Run.cV [.bool ((((a.plus b).plus c).plus ((Ci.acr a b c).out)).ahd (((a.plus b).plus c).plus (Ci.acr a b c)))] kb (fun _ _ _ H=>ahd (((a.plus b).plus c).plus ((Ci.acr a b c).out)) (((a.plus b).plus c).plus (Ci.acr a b c)) (RingP.mk (H.f 32) (H.f 33) (H.f 34) (H.f 35)) (RingP.mk (H.f 24) (H.f 25) (H.f 26) (H.f 27)) (by omega)) ?_
 refine (Bool.eq_false_or_eq_true ((((a.plus b).plus c).plus ((Ci.acr a b c).out)).ahd (((a.plus b).plus c).plus (Ci.acr a b c)))).elim (fun c1=>?_) (fun c1=>?_)
 · refine Run.kn c1 ?_
   refine Run.cV ((rciC (cicut (((a.plus b).plus c).plus ((Ci.acr a b c).out)))).toList++[.int .i64 (cierr (((a.plus b).plus c).plus ((Ci.acr a b c).out)))]) (.tup [.agg (ks 0 16),.o (.k 16)]) (fun _ _ _ H=>dsTold (((a.plus b).plus c).plus ((Ci.acr a b c).out)) (RingP.mk (H.f 32) (H.f 33) (H.f 34) (H.f 35)) (by omega)) ?_
   refine Run.cV ((rciC (cicut (((a.plus b).plus c).plus (Ci.acr a b c)))).toList++[.int .i64 (cierr (((a.plus b).plus c).plus (Ci.acr a b c)))]) (.tup [.agg (ks 0 16),.o (.k 16)]) (fun _ _ _ H=>dsTold (((a.plus b).plus c).plus (Ci.acr a b c)) (RingP.mk (H.f 24) (H.f 25) (H.f 26) (H.f 27)) (by omega)) ?_
   refine Run.ic (cierr (((a.plus b).plus c).plus ((Ci.acr a b c).out))) 0 ((cierr (((a.plus b).plus c).plus ((Ci.acr a b c).out))) != 0) ?_
   refine (Bool.eq_false_or_eq_true ((cierr (((a.plus b).plus c).plus ((Ci.acr a b c).out))) != 0)).elim (fun c2=>?_) (fun c2=>?_)
   · refine Run.kn c2 ?_
     exact Run.rV (fo_1 c1 c2)
   · refine Run.kn c2 ?_
     refine Run.ic (cierr (((a.plus b).plus c).plus (Ci.acr a b c))) 0 ((cierr (((a.plus b).plus c).plus (Ci.acr a b c))) != 0) ?_
     refine (Bool.eq_false_or_eq_true ((cierr (((a.plus b).plus c).plus (Ci.acr a b c))) != 0)).elim (fun c3=>?_) (fun c3=>?_)
     · refine Run.kn c3 ?_
       exact Run.rV (fo_2 c1 c3)
     · refine Run.kn c3 ?_
       refine Run.dr ?_
       refine RunD.en ?_
       exact Run.rV (fo_3 c1 c2 c3)
 · refine Run.kn c1 ?_
   refine Run.cV ((rciC (cicut (((a.plus b).plus c).plus (Ci.acr a b c)))).toList++[.int .i64 (cierr (((a.plus b).plus c).plus (Ci.acr a b c)))]) (.tup [.agg (ks 0 16),.o (.k 16)]) (fun _ _ _ H=>dsTold (((a.plus b).plus c).plus (Ci.acr a b c)) (RingP.mk (H.f 24) (H.f 25) (H.f 26) (H.f 27)) (by omega)) ?_
   refine Run.cV ((rciC (cicut (((a.plus b).plus c).plus ((Ci.acr a b c).out)))).toList++[.int .i64 (cierr (((a.plus b).plus c).plus ((Ci.acr a b c).out)))]) (.tup [.agg (ks 0 16),.o (.k 16)]) (fun _ _ _ H=>dsTold (((a.plus b).plus c).plus ((Ci.acr a b c).out)) (RingP.mk (H.f 32) (H.f 33) (H.f 34) (H.f 35)) (by omega)) ?_
   refine Run.ic (cierr (((a.plus b).plus c).plus (Ci.acr a b c))) 0 ((cierr (((a.plus b).plus c).plus (Ci.acr a b c))) != 0) ?_
   refine (Bool.eq_false_or_eq_true ((cierr (((a.plus b).plus c).plus (Ci.acr a b c))) != 0)).elim (fun c4=>?_) (fun c4=>?_)
   · refine Run.kn c4 ?_
     exact Run.rV (fo_4 c1 c4)
   · refine Run.kn c4 ?_
     refine Run.ic (cierr (((a.plus b).plus c).plus ((Ci.acr a b c).out))) 0 ((cierr (((a.plus b).plus c).plus ((Ci.acr a b c).out))) != 0) ?_
     refine (Bool.eq_false_or_eq_true ((cierr (((a.plus b).plus c).plus ((Ci.acr a b c).out))) != 0)).elim (fun c5=>?_) (fun c5=>?_)
     · refine Run.kn c5 ?_
       exact Run.rV (fo_5 c1 c5)
     · refine Run.kn c5 ?_
       refine Run.dr ?_
       refine RunD.en ?_
       exact Run.rV (fo_6 c1 c4 c5)
theorem swp0{w0_0 w0_1 w0_2 w0_3 w0_4 w0_5 w0_6 w0_7 w0_8 w0_9 w0_10 w0_11 w0_12 w0_13 w0_14 w0_15:Value}{b0:Nat}(n0:Nat)(d0 d1 d2 d3:Ci)(B0:∃ r:List Value,W.heap[b0]? = some (.cells ⟨[w0_0,w0_1,w0_2,w0_3,w0_4,w0_5,w0_6,w0_7,w0_8,w0_9,w0_10,w0_11,w0_12,w0_13,w0_14,w0_15]++r⟩ 133 (0,0)))(t0_0:(RingP d0).p S (.agg #[w0_0,w0_1,w0_2,w0_3]) W)(t0_1:(RingP d1).p S (.agg #[w0_4,w0_5,w0_6,w0_7]) W)(t0_2:(RingP d2).p S (.agg #[w0_8,w0_9,w0_10,w0_11]) W)(t0_3:(RingP d3).p S (.agg #[w0_12,w0_13,w0_14,w0_15]) W)(p0:ht d0.a+ht d0.b.re+ht d0.b.im+ht d0.c≤1000000)(p1:ht d1.a+ht d1.b.re+ht d1.b.im+ht d1.c≤1000000)(p2:ht d2.a+ht d2.b.re+ht d2.b.im+ht d2.c≤1000000)(p3:ht d3.a+ht d3.b.re+ht d3.b.im+ht d3.c≤1000000):Calls Tryz.prog 69 #[.slice (some ⟨b0,0,none⟩) 4 (n0+4),.int .i64 0] W (Ret (RingP (Ci.swp d0 d1 d2 d3 d0)) S W):=by
 have h1:=plus_ht d0 d1
 have h2:=plus_ht (d0.plus d1) d2
 have h3:=plus_ht ((d0.plus d1).plus d2) d3
 have h4:=out_hs d0
 have h5:=plus_ht (((d0.plus d1).plus d2).plus d3) d0.out
 have h6:=plus_ht ((((d0.plus d1).plus d2).plus d3).plus d0.out) ((((d0.plus d1).plus d2).plus d3).plus d0.out)
 refine Run.goP (S:=S) ((Pack.nil.bm B0 4 (n0+4) 16 (AllF.app (ringCells t0_0) (AllF.app (ringCells t0_1) (AllF.app (ringCells t0_2) (ringCells t0_3))))).k (.int .i64 0) [] (.s (.o (.c (.int .i64 0))))) Tryz.func69 rfl ?_
 refine Run.dr ?_
 refine RunD.cR spRing (fun _ _ _ H=>dsPlus d0 d1 (RingP.mk (H.f 0) (H.f 1) (H.f 2) (H.f 3)) (RingP.mk (H.f 4) (H.f 5) (H.f 6) (H.f 7)) (by omega)) ?_
 refine RunD.cR spRing (fun _ _ _ H=>dsPlus (d0.plus d1) d2 (RingP.mk (H.f 16) (H.f 17) (H.f 18) (H.f 19)) (RingP.mk (H.f 8) (H.f 9) (H.f 10) (H.f 11)) (by omega)) ?_
 refine RunD.cR spRing (fun _ _ _ H=>dsPlus ((d0.plus d1).plus d2) d3 (RingP.mk (H.f 20) (H.f 21) (H.f 22) (H.f 23)) (RingP.mk (H.f 12) (H.f 13) (H.f 14) (H.f 15)) (by omega)) ?_
 refine RunD.cR spRing (fun _ _ _ H=>dsOut d0 (RingP.mk (H.f 0) (H.f 1) (H.f 2) (H.f 3)) (by omega)) ?_
 refine RunD.cR spRing (fun _ _ _ H=>dsPlus (((d0.plus d1).plus d2).plus d3) d0.out (RingP.mk (H.f 24) (H.f 25) (H.f 26) (H.f 27)) (RingP.mk (H.f 28) (H.f 29) (H.f 30) (H.f 31)) (by omega)) ?_
 refine RunD.en ?_
 refine Run.dr ?_
 refine RunD.cR spRing (fun _ _ _ H=>dsPlus ((((d0.plus d1).plus d2).plus d3).plus d0.out) ((((d0.plus d1).plus d2).plus d3).plus d0.out) (RingP.mk (H.f 32) (H.f 33) (H.f 34) (H.f 35)) (RingP.mk (H.f 32) (H.f 33) (H.f 34) (H.f 35)) (by omega)) ?_
 refine RunD.cR spRing (fun _ _ _ H=>dsOut d0 (RingP.mk (H.f 0) (H.f 1) (H.f 2) (H.f 3)) (by omega)) ?_
 refine RunD.cR spRing (fun _ _ _ H=>dsPlus (((((d0.plus d1).plus d2).plus d3).plus d0.out).plus ((((d0.plus d1).plus d2).plus d3).plus d0.out)) d0.out (RingP.mk (H.f 36) (H.f 37) (H.f 38) (H.f 39)) (RingP.mk (H.f 40) (H.f 41) (H.f 42) (H.f 43)) (by omega)) ?_
 refine RunD.en ?_
 exact Run.rR (fun _ _ _ H=>VPe (φ:=RingP) (rfl) (RingP.mk (H.f 44) (H.f 45) (H.f 46) (H.f 47)))
theorem sw1(i:Int):Calls Tryz.prog 68 #[.int .i64 i] W (RetV (.bool ((decide (i<0))||(decide (3<i)))) W):=by
 refine Run.goP (S:=Z0) (Pack.nil.k (.int .i64 i) [.int .i64 i] kb) Tryz.func68 rfl ?_
 refine Run.ic i 0 (decide (i<0)) ?_
 refine (Bool.eq_false_or_eq_true (decide (i<0))).elim (fun c1=>?_) (fun c1=>?_)
 · refine Run.kn c1 ?_
   exact Run.rV (V' := .bool true) ((congrArg Value.bool (by simp [c1])))
 · refine Run.kn c1 ?_
   refine Run.ic i 3 (decide (3<i)) ?_
   exact Run.rV (V' := .bool (decide (3<i))) ((congrArg Value.bool (by simp [c1])))
theorem ii1{b0:Nat}(T0:TypeId)(i:Int)(B0:W.heap[b0]? = some (.cells (#[.int .i64 i]) T0 (0,0))):Calls Tryz.prog 164 #[.slice (some ⟨b0,0,none⟩) 1 1,.func (.func 68) #[] #[]] W (RetV (.int .i64 (idxF [!((decide (i<0))||(decide (3<i)))] 0)) W):=by
 refine Run.goP (S:=Z0) ((Pack.nil.b B0 (some 1) 1).k (.func (.func 68) #[] #[]) [] (.s (.o (.fn 68 [])))) Tryz.func164 rfl ?_
 refine Run.cV [.bool ((decide (i<0))||(decide (3<i)))] kb (fun _ _ _ H=>sw1 i) ?_
 refine (Bool.eq_false_or_eq_true ((decide (i<0))||(decide (3<i)))).elim (fun c1=>?_) (fun c1=>?_)
 · refine Run.kn c1 ?_
   exact Run.rV (V' := .int .i64 (0)) ((congrArg (Value.int .i64) (by simp only [idxF,c1];rfl)))
 · refine Run.kn c1 ?_
   exact Run.rV (V' := .int .i64 (-1)) ((congrArg (Value.int .i64) (by simp only [idxF,c1];rfl)))
theorem ci1{b0:Nat}(T0:TypeId)(i:Int)(B0:W.heap[b0]? = some (.cells (#[.int .i64 i]) T0 (0,0))):Calls Tryz.prog 67 #[.slice (some ⟨b0,0,none⟩) 1 1,.func (.func 68) #[] #[]] W (RetV (.bool ((decide (i<0))||(decide (3<i)))) W):=by
 refine Run.goP (S:=Z0) ((Pack.nil.b B0 (some 1) 1).k (.func (.func 68) #[] #[]) [] (.s (.o (.fn 68 [])))) Tryz.func67 rfl ?_
 refine Run.cV [.int .i64 (idxF [!((decide (i<0))||(decide (3<i)))] 0)] kb (fun _ _ _ H=>ii1 T0 i (H.b 0)) ?_
 refine Run.ic (idxF [!((decide (i<0))||(decide (3<i)))] 0) 0 (decide (0≤(idxF [!((decide (i<0))||(decide (3<i)))] 0))) ?_
 exact Run.rV ((congrArg Value.bool (ci1_eq _)))
theorem frY(d0 d1 d2 d3:Ci)(p0:dsOk (rci d0)=true)(p1:dsOk (rci d1)=true)(p2:dsOk (rci d2)=true)(p3:dsOk (rci d3)=true)(p4:Ci.all4 d0 d1 d2 d3=true):Calls Tryz.prog 66 #[.agg ⟨(ciC d0).toList++(ciC d1).toList++(ciC d2).toList++(ciC d3).toList⟩] W (RetB 133 4 (ringF [d0,d1,d2,d3]) (.int .i64 0) S W):=by
 have f0:=cifits_ht (dsOk_c p0).1
 have f1:=cifits_ht (dsOk_c p1).1
 have f2:=cifits_ht (dsOk_c p2).1
 have f3:=cifits_ht (dsOk_c p3).1
 refine Run.goP (S:=S) (Pack.nil.k (.agg ⟨(ciC d0).toList++(ciC d1).toList++(ciC d2).toList++(ciC d3).toList⟩) ((ciC d0).toList++(ciC d1).toList++(ciC d2).toList++(ciC d3).toList) (.s (.agg (ks 0 64)))) Tryz.func66 rfl ?_
 refine Run.cB (n:=4) (T:=133) (φs:=ringF [d0,d1,d2,d3]) (fun _ _ _ H=>pl4Y 30 d0 d1 d2 d3 (H.b 0) p0 p1 p2 p3) (fun cp1=>?_)
 refine Run.cV [.bool ([d1.touch d0].all id&&[d2.touch d0,d2.touch d1].all id&&[d3.touch d0,d3.touch d1,d3.touch d2].all id)] kb (fun _ _ _ H=>tch4 cp1 d0 d1 d2 d3 (H.br 1) (RingP.mk (H.f 0) (H.f 1) (H.f 2) (H.f 3)) (RingP.mk (H.f 4) (H.f 5) (H.f 6) (H.f 7)) (RingP.mk (H.f 8) (H.f 9) (H.f 10) (H.f 11)) (RingP.mk (H.f 12) (H.f 13) (H.f 14) (H.f 15)) (by omega) (by omega) (by omega) (by omega) (by omega) (by omega)) ?_
 refine Run.kn p4 ?_
 exact Run.rB 1 cp1
theorem sws0Y{b1:Nat}(d0 d1 d2 d3:Ci)(T1:TypeId)(B1:W.heap[b1]? = some (.cells #[.int .i64 0] T1 (0,0)))(p0:dsOk (rci d0)=true)(p1:dsOk (rci d1)=true)(p2:dsOk (rci d2)=true)(p3:dsOk (rci d3)=true)(p4:Ci.all4 d0 d1 d2 d3=true)(p5:((cierr (Ci.swp d0 d1 d2 d3 d0)) != 0)=false):Calls Tryz.prog 12 #[.agg ⟨(ciC d0).toList++(ciC d1).toList++(ciC d2).toList++(ciC d3).toList⟩,.slice (some ⟨b1,0,none⟩) 1 1] W (RetV (.tuple #[.agg ⟨(rciC (cicut (Ci.swp d0 d1 d2 d3 d0))).toList++(ciC d1).toList++(ciC d2).toList++(ciC d3).toList⟩,.int .i64 0]) W):=by
 have f0:=cifits_ht (dsOk_c p0).1
 have f1:=cifits_ht (dsOk_c p1).1
 have f2:=cifits_ht (dsOk_c p2).1
 have f3:=cifits_ht (dsOk_c p3).1
 have g0:=swp_ht d0 d1 d2 d3 d0
 refine Run.goP (S:=Z0) ((Pack.nil.k (.agg ⟨(ciC d0).toList++(ciC d1).toList++(ciC d2).toList++(ciC d3).toList⟩) ((ciC d0).toList++(ciC d1).toList++(ciC d2).toList++(ciC d3).toList) (.s (.agg (ks 0 64)))).bc B1 (some 1)) Tryz.func12 rfl ?_
 refine Run.cB (n:=4) (T:=133) (φs:=ringF [d0,d1,d2,d3]) (fun _ _ _ H=>frY d0 d1 d2 d3 p0 p1 p2 p3 p4) (fun cp1=>?_)
 refine Run.cV [.bool ((decide (0<0))||(decide (3<0)))] kb (fun _ _ _ H=>ci1 T1 0 (H.b 0)) ?_
 refine Run.kn (b:=false) rfl ?_
 refine Run.cR spRing (fun _ _ _ H=>swp0 cp1 d0 d1 d2 d3 (H.br 3) (RingP.mk (H.f 0) (H.f 1) (H.f 2) (H.f 3)) (RingP.mk (H.f 4) (H.f 5) (H.f 6) (H.f 7)) (RingP.mk (H.f 8) (H.f 9) (H.f 10) (H.f 11)) (RingP.mk (H.f 12) (H.f 13) (H.f 14) (H.f 15)) (by omega) (by omega) (by omega) (by omega)) ?_
 refine Run.sm 3 0 ?_
 refine Run.cV ((rciC (cicut (Ci.swp d0 d1 d2 d3 d0))).toList++[.int .i64 (cierr (Ci.swp d0 d1 d2 d3 d0))]) (.tup [.agg (ks 0 16),.o (.k 16)]) (fun _ _ _ H=>dsTold (Ci.swp d0 d1 d2 d3 d0) (RingP.mk (H.f 16) (H.f 17) (H.f 18) (H.f 19)) (by omega)) ?_
 refine Run.ic (cierr (Ci.swp d0 d1 d2 d3 d0)) 0 ((cierr (Ci.swp d0 d1 d2 d3 d0)) != 0) ?_
 refine Run.kn p5 ?_
 exact Run.rV rfl
theorem sw0Y(d0 d1 d2 d3:Ci)(p0:dsOk (rci d0)=true)(p1:dsOk (rci d1)=true)(p2:dsOk (rci d2)=true)(p3:dsOk (rci d3)=true)(p4:Ci.all4 d0 d1 d2 d3=true)(p5:((cierr (Ci.swp d0 d1 d2 d3 d0)) != 0)=false):Calls Tryz.prog 11 #[.agg ⟨(ciC d0).toList++(ciC d1).toList++(ciC d2).toList++(ciC d3).toList⟩,.int .i64 0] W (RetV (.tuple #[.agg ⟨(rciC (cicut (Ci.swp d0 d1 d2 d3 d0))).toList++(ciC d1).toList++(ciC d2).toList++(ciC d3).toList⟩,.int .i64 0]) W):=by
 refine Run.goP (S:=Z0) ((Pack.nil.k (.agg ⟨(ciC d0).toList++(ciC d1).toList++(ciC d2).toList++(ciC d3).toList⟩) ((ciC d0).toList++(ciC d1).toList++(ciC d2).toList++(ciC d3).toList) (.s (.agg (ks 0 64)))).k (.int .i64 0) [] (.s (.o (.c (.int .i64 0))))) Tryz.func11 rfl ?_
 refine Run.cV ((rciC (cicut (Ci.swp d0 d1 d2 d3 d0))).toList++(ciC d1).toList++(ciC d2).toList++(ciC d3).toList) (.tup [.agg (ks 0 64),.o (.c (.int .i64 0))]) (fun _ _ _ H=>sws0Y d0 d1 d2 d3 3 (H.b 2) p0 p1 p2 p3 p4 p5) ?_
 exact Run.rV rfl
end Go.Proofs.YtcboejgklgnifaaGreat
namespace Go.Proofs.YtcboejgklgnifaaGreat
open Go.RowKit Rgn
section
variable {w:World}
theorem eqin_dk(d:Nat)(r q:RCi):(Op.equalIn (d+5) 29 (rciV r) (rciV q)).run Tryz.prog w=.ok (decide (r=q)) w:=by
 have hf:=fields_of Tryz.underlying29
 have e:decide (r=q)=((decide (r.a=q.a)&&(decide (r.b=q.b)&&(decide (r.c=q.c)&&true)))):=by
  cases r;cases q;simp only [RCi.mk.injEq,Bool.and_true,decide_eq_decide,Bool.decide_and]
 rw [e]
 rw [run_equalIn_struct _ _ _ _ _ (by rw [hf];exact Tryz.underlying29) (by kernel_rfl),hf]
 refine eqf_step (a:=rfV r.a) (b:=rfV q.a) (by decide) (by go_simp) (by go_simp) (eqin_frac _ _ _) (eqf_step (a:=rgV r.b) (b:=rgV q.b) (by decide) (by go_simp) (by go_simp) (eqin_gauss _ _ _) (eqf_step (a:=rfV r.c) (b:=rfV q.c) (by decide) (by go_simp) (by go_simp) (eqin_frac _ _ _) (eqf_nil)))
end
theorem ex_eql_dk{ρ:Operand→Value}{o:Oper}{w:World}{k:TypeId}(a b:Operand)(ho:o.op=.binOp .eql 29 a b k){r q:RCi}(ha:ρ a=rciV r)(hb:ρ b=rciV q){c:Bool}(hc:decide (r=q)=c):(execOp ρ o).run Tryz.prog w=.ok (.value (.bool (c))) w:=by
 subst hc
 unfold execOp
 simp only [ho,ha,hb,rciV,Sem.run_bind]
 rw [run_eqGuard_agg (P:=Tryz.prog) w .eql 29 a b (rciC r) (rciC q) (by kernel_rfl)]
 simp only [Result.andThen_ok,Sem.run_bind,run_eql_struct,eqin_dk 9995 r q]
 rfl
end Go.Proofs.YtcboejgklgnifaaGreat
namespace Go.Proofs.YtcboejgklgnifaaGreat
open Go.RowKit Rgn Eng
def Ci.in4(n re im co:Int):Ci:=⟨(n:Rat),Cx.ofInt re im,(co:Rat)⟩
def Ci.dk(c:Ci):Int:=if (!decide (c.b.norm-c.a*c.c=(1:Rat)))=true then 2 else 0
section
variable {a b:Ci}
end
end Go.Proofs.YtcboejgklgnifaaGreat
namespace Go.Proofs.YtcboejgklgnifaaGreat
open Go.RowKit Rgn Eng
variable {S:Nat→Prop} {W:World}
theorem rdFits(r:RCi):Calls Tryz.prog 87 #[rciV r] W (RetV (.bool (cifits r)) W):=by
 refine Run.goP (S:=Z0) (Pack.nil.k (rciV r) (rciC r).toList (.s (.agg (ks 0 16)))) Tryz.func87 rfl ?_
 refine Run.cV [.bool (fits r.a)] kb (fun _ _ _ H=>fFits r.a) ?_
 refine (Bool.eq_false_or_eq_true (fits r.a)).elim (fun c1=>?_) (fun c1=>?_)
 · refine Run.kn c1 ?_
   refine Run.cV [.bool (gfits r.b)] kb (fun _ _ _ H=>cFits r.b) ?_
   refine (Bool.eq_false_or_eq_true (gfits r.b)).elim (fun c2=>?_) (fun c2=>?_)
   · refine Run.kn c2 ?_
     refine Run.cV [.bool (fits r.c)] kb (fun _ _ _ H=>fFits r.c) ?_
     exact Run.rV (V' := .bool (fits r.c)) ((by unfold cifits;rw [c1,c2];rfl))
   · refine Run.kn c2 ?_
     exact Run.rV (V' := .bool false) ((by unfold cifits;rw [c1,c2];rfl))
 · refine Run.kn c1 ?_
   exact Run.rV (V' := .bool false) ((by unfold cifits;rw [c1];rfl))
end Go.Proofs.YtcboejgklgnifaaGreat
namespace Go.Proofs.YtcboejgklgnifaaGreat
open Go.RowKit Rgn Eng
variable {S:Nat→Prop} {W:World}
theorem prY(a b:Ci)(p0:dsOk (rci a)=true)(p1:dsOk (rci b)=true):Calls Tryz.prog 59 #[ciV a,ciV b] W (RetV (.tuple #[rfV (fcut (a.dot b)),.int .i64 (ferr (a.dot b))]) W):=by
 have f0:=cifits_ht (dsOk_c p0).1
 have f1:=cifits_ht (dsOk_c p1).1
 have h1:=dot_ht a b
 refine Run.goP (S:=Z0) ((Pack.nil.k (ciV a) (ciC a).toList (.s (.agg (ks 0 16)))).k (ciV b) (ciC b).toList (.s (.agg (ks 0 16)))) Tryz.func59 rfl ?_
 refine Run.cB (n:=2) (T:=133) (φs:=ringF [a,b]) (fun _ _ _ H=>pl2Y 29 a b (H.b 3) p0 p1) (fun cp1=>?_)
 refine Run.dr ?_
 refine RunD.cR spRat (fun _ _ _ H=>dsBy a b (RingP.mk (H.f 0) (H.f 1) (H.f 2) (H.f 3)) (RingP.mk (H.f 4) (H.f 5) (H.f 6) (H.f 7)) (by omega)) ?_
 refine RunD.cV ((rfC (fcut (a.dot b))).toList++[.int .i64 (ferr (a.dot b))]) (.tup [.agg (ks 0 4),.o (.k 4)]) (fun _ _ _ H=>eFrac (a.dot b) (RatP.n (H.f 8)) (by omega)) ?_
 refine RunD.en ?_
 exact Run.rV rfl
theorem l20num(n:Int):Calls Tryz.prog 16 #[.int .i64 n] W (RetV (.int .i64 n) W):=by
 refine Run.goP (S:=Z0) (Pack.nil.k (.int .i64 n) [.int .i64 n] kb) Tryz.func16 rfl ?_
 exact Run.rV rfl
theorem l20in(n re im co:Int)(p0:-9223372036854775808≤n∧n≤9223372036854775807)(p1:-9223372036854775808≤re∧re≤9223372036854775807)(p2:-9223372036854775808≤im∧im≤9223372036854775807)(p3:-9223372036854775808≤co∧co≤9223372036854775807):Calls Tryz.prog 53 #[.int .i64 n,.int .i64 re,.int .i64 im,.int .i64 co] W (RetV (ciV (Ci.in4 n re im co)) W):=by
 refine Run.goP (S:=Z0) ((((Pack.nil.k (.int .i64 n) [.int .i64 n] kb).k (.int .i64 re) [.int .i64 re] kb).k (.int .i64 im) [.int .i64 im] kb).k (.int .i64 co) [.int .i64 co] kb) Tryz.func53 rfl ?_
 refine Run.cV (fC (n:Rat)).toList (.s (.agg (ks 0 4))) (fun _ _ _ H=>fInt n (by omega) (by omega)) ?_
 refine Run.cV (gC (Cx.ofInt re im)).toList (.s (.agg (ks 0 8))) (fun _ _ _ H=>cInt re im (by omega) (by omega) (by omega) (by omega)) ?_
 refine Run.cV (fC (co:Rat)).toList (.s (.agg (ks 0 4))) (fun _ _ _ H=>fInt co (by omega) (by omega)) ?_
 exact Run.rV (rfl)
end Go.Proofs.YtcboejgklgnifaaGreat
namespace Go.Proofs.YtcboejgklgnifaaGreat
open Go.RowKit Rgn Eng
def lg6(r:RW):Bool:=decide (60<(r.s.size:Int))&&decide ((r.s.size:Int)≤1024)
def lgD(r:RF):Bool:=lg6 r.a||lg6 r.b
def lgE(r:RG):Bool:=lgD r.re||lgD r.im
theorem in4_fits{n re im co:Int}(h1:ht (n:Rat)≤100)(h2:ht (re:Rat)≤100)(h3:ht (im:Rat)≤100)(h4:ht (co:Rat)≤100):cifits (rci (Ci.in4 n re im co))=true:=by
 show (fits (rf (n:Rat))&&gfits (rg (Cx.ofInt re im))&&fits (rf (co:Rat)))=true
 rw [fits_ht (by omega),fits_ht (by omega),gfits_ht (z:=Cx.ofInt re im) ⟨by show ht (re:Rat)≤_;omega,by show ht (im:Rat)≤_;omega⟩];rfl
theorem okO:dsOk (rci (Ci.in4 (-1) 0 0 1))=true:=dsOk_yes (in4_fits (by decide) (by decide) (by decide) (by decide)) (by decide +kernel)
theorem okA:dsOk (rci (Ci.in4 2 1 0 0))=true:=dsOk_yes (in4_fits (by decide) (by decide) (by decide) (by decide)) (by decide +kernel)
theorem okB:dsOk (rci (Ci.in4 2 (-1) 0 0))=true:=dsOk_yes (in4_fits (by decide) (by decide) (by decide) (by decide)) (by decide +kernel)
theorem okC:dsOk (rci (Ci.in4 3 0 2 1))=true:=dsOk_yes (in4_fits (by decide) (by decide) (by decide) (by decide)) (by decide +kernel)
theorem ok_e{c:Ci}(h:cifits (rci c)=true):cierr c=0:=by unfold cierr;rw [if_pos h]
theorem ok_r{c:Ci}(h:cifits (rci c)=true):cicut c=rci c:=by unfold cicut;rw [if_pos h]
variable {W:World}
theorem wkPr(a b:Ci)(p0:a=Ci.in4 2 1 0 0)(p1:b=Ci.in4 2 (-1) 0 0):Calls Tryz.prog 59 #[ciV a,ciV b] W (RetV (.tuple #[fV (1:Rat),.int .i64 0]) W):=by
 subst p0;subst p1
 have e:(Ci.in4 2 1 0 0).dot (Ci.in4 2 (-1) 0 0)=1:=by decide +kernel
 have f:fits (rf (1:Rat))=true:=fits_ht (by decide)
 refine reV ?_ (prY _ _ okA okB)
 rw [e];unfold fcut ferr;rw [if_pos f,if_pos f]
theorem wkFo(a b c:Ci)(p0:a=Ci.in4 (-1) 0 0 1)(p1:b=Ci.in4 2 1 0 0)(p2:c=Ci.in4 2 (-1) 0 0):Calls Tryz.prog 21 #[ciV a,ciV b,ciV c] W (RetV (.tuple #[ciV (Ci.in4 3 0 (-2) 1),ciV (Ci.in4 3 0 2 1),.int .i64 0]) W):=by
 subst p0;subst p1;subst p2
 have e1:Ci.f4p (Ci.in4 (-1) 0 0 1) (Ci.in4 2 1 0 0) (Ci.in4 2 (-1) 0 0)=Ci.in4 3 0 (-2) 1:=by decide +kernel
 have e2:Ci.f4q (Ci.in4 (-1) 0 0 1) (Ci.in4 2 1 0 0) (Ci.in4 2 (-1) 0 0)=Ci.in4 3 0 2 1:=by decide +kernel
 have f1:cifits (rci (Ci.in4 3 0 (-2) 1))=true:=in4_fits (by decide) (by decide) (by decide) (by decide)
 have f2:cifits (rci (Ci.in4 3 0 2 1))=true:=in4_fits (by decide) (by decide) (by decide) (by decide)
 have g:¬ Ci.f4b (Ci.in4 (-1) 0 0 1) (Ci.in4 2 1 0 0) (Ci.in4 2 (-1) 0 0)=true:=by unfold Ci.f4b;rw [e1,e2,ok_e f1,ok_e f2];decide
 refine reV ?_ (fo4 _ _ _ okO okA okB (by decide +kernel))
 unfold Ci.f4P Ci.f4Q Ci.f4E;rw [if_neg g,if_neg g,if_neg g,e1,e2,ok_r f1,ok_r f2]
theorem wkSw(d0 d1 d2 d3:Ci)(p0:d0=Ci.in4 (-1) 0 0 1)(p1:d1=Ci.in4 2 1 0 0)(p2:d2=Ci.in4 2 (-1) 0 0)(p3:d3=Ci.in4 3 0 2 1):Calls Tryz.prog 11 #[.agg ⟨(ciC d0).toList++(ciC d1).toList++(ciC d2).toList++(ciC d3).toList⟩,.int .i64 0] W (RetV (.tuple #[.agg ⟨(ciC (Ci.in4 15 0 4 1)).toList++(ciC d1).toList++(ciC d2).toList++(ciC d3).toList⟩,.int .i64 0]) W):=by
 subst p0;subst p1;subst p2;subst p3
 have e:Ci.swp (Ci.in4 (-1) 0 0 1) (Ci.in4 2 1 0 0) (Ci.in4 2 (-1) 0 0) (Ci.in4 3 0 2 1) (Ci.in4 (-1) 0 0 1)=Ci.in4 15 0 4 1:=by decide +kernel
 have f:cifits (rci (Ci.in4 15 0 4 1))=true:=in4_fits (by decide) (by decide) (by decide) (by decide)
 refine reV ?_ (sw0Y _ _ _ _ okO okA okB okC (by decide +kernel) (by rw [e,ok_e f];rfl))
 rw [e,ok_r f]
end Go.Proofs.YtcboejgklgnifaaGreat
namespace Go.Proofs.YtcboejgklgnifaaGreat
open Go.RowKit Rgn Eng
variable {S:Nat→Prop} {W:World}
theorem l20longF(r:RF):Calls Tryz.prog 39 #[rfV r] W (RetV (.bool (lgD r)) W):=by
 refine Run.goP (S:=Z0) (Pack.nil.k (rfV r) (rfC r).toList (.s (.agg (ks 0 4)))) Tryz.func39 rfl ?_
 refine Run.sl r.a.s 9 Tryz.underlying9 ?_
 rcases Bool.eq_false_or_eq_true (decide (60<((r.a.s.size:Nat):Int))) with c0|c0
 · refine Run.ik .gtr ((r.a.s.size:Nat):Int) 60 true (congrArg some c0) ?_
   refine Run.sl r.a.s 9 Tryz.underlying9 ?_
   rcases Bool.eq_false_or_eq_true (decide (((r.a.s.size:Nat):Int)≤1024)) with c1|c1
   · refine Run.ik .leq ((r.a.s.size:Nat):Int) 1024 true (congrArg some c1) ?_
     exact Run.rV (show Value.bool true=.bool (lgD r) by unfold lgD lg6;rw [c0,c1];rfl)
   · refine Run.ik .leq ((r.a.s.size:Nat):Int) 1024 false (congrArg some c1) ?_
     refine Run.sl r.b.s 9 Tryz.underlying9 ?_
     rcases Bool.eq_false_or_eq_true (decide (60<((r.b.s.size:Nat):Int))) with c2|c2
     · refine Run.ik .gtr ((r.b.s.size:Nat):Int) 60 true (congrArg some c2) ?_
       refine Run.sl r.b.s 9 Tryz.underlying9 ?_
       rcases Bool.eq_false_or_eq_true (decide (((r.b.s.size:Nat):Int)≤1024)) with c3|c3
       · refine Run.ik .leq ((r.b.s.size:Nat):Int) 1024 true (congrArg some c3) ?_
         exact Run.rV (show Value.bool true=.bool (lgD r) by unfold lgD lg6;rw [c0,c1,c2,c3];rfl)
       · refine Run.ik .leq ((r.b.s.size:Nat):Int) 1024 false (congrArg some c3) ?_
         exact Run.rV (show Value.bool false=.bool (lgD r) by unfold lgD lg6;rw [c0,c1,c2,c3];rfl)
     · refine Run.ik .gtr ((r.b.s.size:Nat):Int) 60 false (congrArg some c2) ?_
       exact Run.rV (show Value.bool false=.bool (lgD r) by unfold lgD lg6;rw [c0,c1,c2];rfl)
 · refine Run.ik .gtr ((r.a.s.size:Nat):Int) 60 false (congrArg some c0) ?_
   refine Run.sl r.b.s 9 Tryz.underlying9 ?_
   rcases Bool.eq_false_or_eq_true (decide (60<((r.b.s.size:Nat):Int))) with c4|c4
   · refine Run.ik .gtr ((r.b.s.size:Nat):Int) 60 true (congrArg some c4) ?_
     refine Run.sl r.b.s 9 Tryz.underlying9 ?_
     rcases Bool.eq_false_or_eq_true (decide (((r.b.s.size:Nat):Int)≤1024)) with c5|c5
     · refine Run.ik .leq ((r.b.s.size:Nat):Int) 1024 true (congrArg some c5) ?_
       exact Run.rV (show Value.bool true=.bool (lgD r) by unfold lgD lg6;rw [c0,c4,c5];rfl)
     · refine Run.ik .leq ((r.b.s.size:Nat):Int) 1024 false (congrArg some c5) ?_
       exact Run.rV (show Value.bool false=.bool (lgD r) by unfold lgD lg6;rw [c0,c4,c5];rfl)
   · refine Run.ik .gtr ((r.b.s.size:Nat):Int) 60 false (congrArg some c4) ?_
     exact Run.rV (show Value.bool false=.bool (lgD r) by unfold lgD lg6;rw [c0,c4];rfl)
theorem l20works  : Calls Tryz.prog 10 #[] W (RetV (.bool true) W):=by
 refine Run.goP (S:=Z0) Pack.nil Tryz.func10 rfl ?_
 refine Run.cV (ciC (Ci.in4 (-1) 0 0 1)).toList (.s (.agg (ks 0 16))) (fun _ _ _ H=>l20in (-1) 0 0 1 (by first|omega|rfl) (by first|omega|rfl) (by first|omega|rfl) (by first|omega|rfl)) ?_
 refine Run.cV (ciC (Ci.in4 2 1 0 0)).toList (.s (.agg (ks 0 16))) (fun _ _ _ H=>l20in 2 1 0 0 (by first|omega|rfl) (by first|omega|rfl) (by first|omega|rfl) (by first|omega|rfl)) ?_
 refine Run.cV (ciC (Ci.in4 2 (-1) 0 0)).toList (.s (.agg (ks 0 16))) (fun _ _ _ H=>l20in 2 (-1) 0 0 (by first|omega|rfl) (by first|omega|rfl) (by first|omega|rfl) (by first|omega|rfl)) ?_
 refine Run.cV (ciC (Ci.in4 3 0 2 1)).toList (.s (.agg (ks 0 16))) (fun _ _ _ H=>l20in 3 0 2 1 (by first|omega|rfl) (by first|omega|rfl) (by first|omega|rfl) (by first|omega|rfl)) ?_
 refine Run.cV (fC (1:Rat)).toList (.tup [.agg (ks 0 4),.o (.c (.int .i64 0))]) (fun _ _ _ H=>wkPr (Ci.in4 2 1 0 0) (Ci.in4 2 (-1) 0 0) (by first|omega|rfl) (by first|omega|rfl)) ?_
 refine Run.cV ((ciC (Ci.in4 3 0 (-2) 1)).toList++(ciC (Ci.in4 3 0 2 1)).toList) (.tup [.agg (ks 0 16),.agg (ks 16 16),.o (.c (.int .i64 0))]) (fun _ _ _ H=>wkFo (Ci.in4 (-1) 0 0 1) (Ci.in4 2 1 0 0) (Ci.in4 2 (-1) 0 0) (by first|omega|rfl) (by first|omega|rfl) (by first|omega|rfl)) ?_
 refine Run.cV ((ciC (Ci.in4 15 0 4 1)).toList++(ciC (Ci.in4 2 1 0 0)).toList++(ciC (Ci.in4 2 (-1) 0 0)).toList++(ciC (Ci.in4 3 0 2 1)).toList) (.tup [.agg (ks 0 64),.o (.c (.int .i64 0))]) (fun _ _ _ H=>wkSw (Ci.in4 (-1) 0 0 1) (Ci.in4 2 1 0 0) (Ci.in4 2 (-1) 0 0) (Ci.in4 3 0 2 1) (by first|omega|rfl) (by first|omega|rfl) (by first|omega|rfl) (by first|omega|rfl)) ?_
 refine Run.dr ?_
 refine RunD.cV [] (.s (.o (.c (.int .i64 0)))) (fun _ _ _ H=>l20num 0) ?_
 refine RunD.cV (fC (1:Rat)).toList (.s (.agg (ks 0 4))) (fun _ _ _ H=>fInt 1 (by decide) (by decide)) ?_
 refine RunD.bi [] (cb true) (fun _ _ _ o1 o2 _ ho hx hy=>ex_eql_frac (r:=(rf (1:Rat))) (q:=(rf (1:Rat))) o1 o2 ho hx hy ((rf_dec (1:Rat) (1:Rat)).trans (decide_eq_true rfl))) ?_
 refine RunD.cV [] (.s (.o (.c (.int .i64 0)))) (fun _ _ _ H=>l20num 0) ?_
 refine RunD.cV (ciC (Ci.in4 3 0 (-2) 1)).toList (.s (.agg (ks 0 16))) (fun _ _ _ H=>l20in 3 0 (-2) 1 (by first|omega|rfl) (by first|omega|rfl) (by first|omega|rfl) (by first|omega|rfl)) ?_
 refine RunD.bi [] (cb true) (fun _ _ _ o1 o2 _ ho hx hy=>ex_eql_dk (r:=(rci (Ci.in4 3 0 (-2) 1))) (q:=(rci (Ci.in4 3 0 (-2) 1))) o1 o2 ho hx hy ((rci_dec (Ci.in4 3 0 (-2) 1) (Ci.in4 3 0 (-2) 1)).trans (decide_eq_true rfl))) ?_
 refine RunD.bi [] (cb true) (fun _ _ _ o1 o2 _ ho hx hy=>ex_eql_dk (r:=(rci (Ci.in4 3 0 2 1))) (q:=(rci (Ci.in4 3 0 2 1))) o1 o2 ho hx hy ((rci_dec (Ci.in4 3 0 2 1) (Ci.in4 3 0 2 1)).trans (decide_eq_true rfl))) ?_
 refine RunD.cV [] (.s (.o (.c (.int .i64 0)))) (fun _ _ _ H=>l20num 0) ?_
 refine RunD.cV (ciC (Ci.in4 15 0 4 1)).toList (.s (.agg (ks 0 16))) (fun _ _ _ H=>l20in 15 0 4 1 (by first|omega|rfl) (by first|omega|rfl) (by first|omega|rfl) (by first|omega|rfl)) ?_
 refine RunD.bi [] (cb true) (fun _ _ _ o1 o2 _ ho hx hy=>ex_eql_dk (r:=(rci (Ci.in4 15 0 4 1))) (q:=(rci (Ci.in4 15 0 4 1))) o1 o2 ho hx hy ((rci_dec (Ci.in4 15 0 4 1) (Ci.in4 15 0 4 1)).trans (decide_eq_true rfl))) ?_
 refine RunD.en ?_
 exact Run.rV rfl
end Go.Proofs.YtcboejgklgnifaaGreat
namespace Go.Proofs.YtcboejgklgnifaaGreat
open Go.RowKit Rgn
structure PnF (P:Pn):Prop where
 z:P.inf=true→P.z=⟨0,0⟩
 f:pnfits P=true
theorem PnF.ht{P:Pn}(h:PnF P):ht P.z.re+ht P.z.im≤20000:=by
 cases e:P.inf with
 | true=>rw [h.z e];decide
 | false =>
  have:=h.f
  unfold pnfits at this
  rw [e] at this
  exact gfits_ht2 this
section
variable {m:Mb} {c:Ci} (h:m.det.zero=false) (hc:c.pos=true)
include h hc
end
end Go.Proofs.YtcboejgklgnifaaGreat
namespace Go.Proofs.YtcboejgklgnifaaGreat
open Go.RowKit Rgn Eng
theorem rim_hs(a:Ci):ht a.rim.a+ht a.rim.b.re+ht a.rim.b.im+ht a.rim.c=ht a.a+ht a.b.re+ht a.b.im+ht a.c:=by
 have h1:ht a.rim.b.re=ht a.b.re:=ht_neg a.b.re
 have h2:ht a.rim.b.im=ht a.b.im:=(ht_neg (-a.b.im)).trans (ht_neg a.b.im)
 show ht a.a+ht a.rim.b.re+ht a.rim.b.im+ht a.c=_
 omega
section
variable {a b:Ci}
theorem d11:Rat.divInt 1 1=(1:Rat):=by decide
end
end Go.Proofs.YtcboejgklgnifaaGreat
namespace Go.Proofs.YtcboejgklgnifaaGreat
open Go.RowKit Rgn
theorem make_zeros(z z': Int)(q n:Nat)(hz:z=q)(hz': z'=n)(hq:q≤n)(hn:n≤1099511627776)(u:World):(Instr.makeSlice 189 (.int .i64 z) (.int .i64 z')).run Tryz.prog u =
   .ok (.slice (some ⟨u.heap.size,0,none⟩) q n) (u.alloc (.cells (wcells (List.replicate n 0)) 280)):=by
 subst hz
 subst hz'
 obtain⟨i0,hi,hz0,hz1,hz2⟩:=info_parts info_u32
 have h:=run_make (P:=Tryz.prog) u 189 280 i0 (.int .u32 0) Tryz.underlying189 hi hz0 .i64 .i64 (q:Int) (n:Int) (by omega) (by omega) (by rw [hz2];omega) (by omega)
 rw [← made_wcells]
 simpa [hz1,Value.cells] using h
theorem Own.zeros{B:Nat}{w:World}(hB:B≤w.heap.size)(q n:Nat)(hq:q≤n)(hn:n≤1099511627776):Own B (w.alloc (.cells (wcells (List.replicate n 0)) 280)) (.slice (some ⟨w.heap.size,0,none⟩) q n) (List.replicate q 0):=by
 refine⟨⟨by simp [u32s],.inr ⟨w.heap.size,n,_,?_,hB,heap_alloc_new w _,?_,?_,?_,?_⟩⟩,Bd.replicate _⟩
 ·simp
 ·simpa using hq
 ·simp only [maxLen];omega
 ·simp [wcells_size]
 ·simp [wcells,u32s,List.map_replicate,List.take_replicate,Nat.min_eq_left hq]
theorem val_zeros(q:Nat):val (List.replicate q 0)=0:=by
 induction q with
 | zero=>rfl
 | succ q ih=>simp [List.replicate_succ,val,ih]
theorem up_stepq{l L:List Nat}{q k cy p:Nat}(hL:L.length=q+k)(h:val L+4294967296^(q+k)*cy=4294967296^q*(val (l.take k)*p)):val (L++[(cy+l.getD k 0*p)%4294967296])+4294967296^(q+(k+1))*((cy+l.getD k 0*p)/4294967296)=4294967296^q*(val (l.take (k+1))*p):=by
 have e:=Nat.mod_add_div (cy+l.getD k 0*p) 4294967296
 rw [val_snoc,val_take_succ,Nat.add_mul,Nat.mul_add,← h,hL,← Nat.add_assoc,Nat.pow_succ]
 generalize (cy+l.getD k 0*p)%4294967296=m at *
 generalize (cy+l.getD k 0*p)/4294967296=d at *
 have e2:4294967296^q*(4294967296^k*l.getD k 0*p)=4294967296^(q+k)*(l.getD k 0*p):=by rw [Nat.pow_add];ac_rfl
 rw [e2]
 generalize l.getD k 0*p=x at *
 generalize 4294967296^(q+k)=B at *
 rw [Nat.mul_assoc B,Nat.add_assoc,← Nat.mul_add,e,Nat.mul_add,Nat.add_assoc]
theorem refup_all(v:Value)(l:List Nat)(s:Nat)(w:World)(h:Words w v l)(hs:s≤274877906944)(hl:l.length≤274877906944):Calls Tryz.prog 244 #[v,.int .i64 s] w (MagRet (val l*2^s) w):=by
 have Hb:=h.bd
 obtain⟨a,c,rfl,hc1,hc2⟩:=h.len
 have H1:=Lib.hid h
 clear h
 by_cases hl0:l.length=0
 ·have e:l=[]:=List.length_eq_zero_iff.1 hl0
  subst e
  go_enter Tryz.func244,Tryz.ntmps244
  go_wp2_with fail
  go_ret
  refine⟨_,rfl,⟨[],.inl ⟨rfl,rfl⟩,?_,?_⟩,Below.refl _ _⟩
  ·simp [Canon]
  ·simp [val]
 have hl1:((l.length:Int) == 0)=false:=by rw [beq_eq_false_iff_ne];omega
 obtain⟨q,hq⟩:∃ q,q=s/32:=⟨_,rfl⟩
 obtain⟨t,ht⟩:∃ t,t=s%32:=⟨_,rfl⟩
 have e0:(s:Int)/32=q:=by omega
 have e1:(s:Int)%32=t:=by omega
 have e2:s%32=t:=by omega
 have hmk:=make_zeros ((s:Int)/32) ((s:Int)/32+(l.length:Int)+1) q (q+l.length+1) (by omega) (by omega) (by omega) (by omega)
 obtain⟨p,hp⟩:∃ p,p=2^t:=⟨_,rfl⟩
 have hps:Hid (2^s=4294967296^q*p):=by
  show _=_
  rw [hp,show s=32*q+t by omega,Nat.pow_add,Nat.pow_mul]
 have hpI:(2:Int)^t=(p:Int):=by rw [hp];simp
 have hp1:p≤2147483648:=by rw [hp];exact Nat.pow_le_pow_right (n:=2) (by decide) (by omega:t≤31)
 have hp0:0<p:=by rw [hp];exact Nat.pow_pos (by decide)
 have ht32:t<32:=by omega
 clear hp
 rw [e0] at hmk
 have hqb:q≤8589934592:=by omega
 clear hq ht
 go_enter Tryz.func244,Tryz.ntmps244
 go_wp2_with fail
 go_loopw [5,6,7] (fun v5 v6 v7 wr=>∃ (k cy:Nat) (L:List Nat),v6=.int .u64 cy∧v7=.int .i64 k∧k≤l.length∧cy<p∧L.length=q+k∧Hid (val L+4294967296^(q+k)*cy=4294967296^q*(val (l.take k)*p))∧Own w.heap.size wr v5 L∧Below w.heap.size w wr) (fun _ _ v7 _=>l.length-(intOf v7).toNat)
 case atStart =>
  refine⟨0,0,_,rfl,rfl,by omega,hp0,?_,?_,Own.zeros (Nat.le_refl w.heap.size) q (q+l.length+1) (by omega) (by omega),?_⟩
  ·simp
  ·show _=_;simp [val,val_zeros]
  ·go_grown
 case round =>
  obtain⟨k,cy,L,rfl,rfl,hk,hcy,hL,HS,HO,HW⟩:=hrel
  obtain⟨i0,hi,hz0,hz1,hz2⟩:=info_parts info_u32
  by_cases hkn:k<l.length
  ·have hkn' : (k:Int)<(l.length:Int):=by omega
   obtain⟨b,off,rfl,hca⟩:=(H1.out.low HW).at hkn
   have hx:=Hb.getD k
   have HS' := Lib.hid (up_stepq hL HS)
   generalize l.getD k 0=x at *
   have hq:x*p≤4294967295*p:=Nat.mul_le_mul_right _ (by omega)
   have eq:(x:Int)*(p:Int)=((x*p:Nat):Int):=by simp
   generalize x*p=y at *
   clear HS
   have hB:=HW.size
   go_wp2_with (first|(at_builtin;go_loud (refine wpList_push rfl _ _ rfl w.heap.size _ L ((cy+y)%4294967296) _ HO HW hB rfl rfl (by omega) (by omega) (by omega) ?_;intro v' w1 HO1 HW1)))
   refine⟨?_,?_⟩
   ·exact⟨k+1,(cy+y)/4294967296,_,by go_num,by go_num,by omega,by omega,by simp [hL];omega,HS', HO1,HW1⟩
   ·simp [intOf];omega
  ·have hkn' : ¬ (k:Int)<(l.length:Int):=by omega
   have e:k=l.length:=by omega
   have HV:Hid (val (L++[cy])=val l*2^s):=by
    show _=_
    rw [val_snoc,hL,HS.out,e,List.take_length,hps.out]
    ac_rfl
   clear HS
   have hB:=HW.size
   go_wp2_with (first|(at_builtin;refine wpList_push rfl _ _ rfl w.heap.size _ L cy _ HO HW hB rfl rfl (by omega) (by omega) (by omega) ?_;intro v' w1 HO1 HW1))
   go_call (refcut_any _ _ _ HO1.words) as _ _ ⟨rfl,rfl⟩
   go_wp2
   go_ret
   exact⟨_,rfl,⟨_,HO1.words.cut,trim_canon _,by rw [val_trim,HV.out]⟩,HW1⟩
theorem bigleft_all(v:Value)(l:List Nat)(s:Nat)(w:World)(h:Words w v l)(hs:s≤274877906944)(hl:l.length≤274877906944):Calls Tryz.prog 256 #[v,.int .i64 s] w (MagRet (val l*2^s) w):=by
 have Hb:=h.bd
 obtain⟨a,c,rfl,hc1,hc2⟩:=h.len
 have H1:=Lib.hid h
 clear h
 obtain⟨q,hq⟩:∃ q,q=s/32:=⟨_,rfl⟩
 obtain⟨t,ht⟩:∃ t,t=s%32:=⟨_,rfl⟩
 have e0:(s:Int)/32=q:=by omega
 have e1:(s:Int)%32=t:=by omega
 have e2:s%32=t:=by omega
 have ht32:t<32:=by omega
 have hmk:=make_zeros ((s:Int)/32) ((s:Int)/32+(l.length:Int)+1) q (q+l.length+1) (by omega) (by omega) (by omega) (by omega)
 obtain⟨p,hp⟩:∃ p,p=2^t:=⟨_,rfl⟩
 have hps:Hid (2^s=4294967296^q*p):=by
  show _=_
  rw [hp,show s=32*q+t by omega,Nat.pow_add,Nat.pow_mul]
 have hpI:(2:Int)^t=(p:Int):=by rw [hp];simp
 have hp1:p≤2147483648:=by rw [hp];exact Nat.pow_le_pow_right (n:=2) (by decide) (by omega:t≤31)
 have hp0:0<p:=by rw [hp];exact Nat.pow_pos (by decide)
 have hor:=fun (cy x:Nat) (h1:cy<p) (h2:x<4294967296)=>or_shl hp ht32 h1 h2
 have HOR:=Lib.hid hor
 clear hp hor
 rw [e0] at hmk
 have hqb:q≤8589934592:=by omega
 clear hq ht
 go_enter Tryz.func256,Tryz.ntmps256
 go_wp2_with fail
 go_loopw [5,6,20] (fun v5 v6 v7 wr=>∃ (k cy:Nat) (L:List Nat),v6=.int .u64 cy∧v7=.int .i64 k∧k≤l.length∧cy<p∧L.length=q+k∧Hid (val L+4294967296^(q+k)*cy=4294967296^q*(val (l.take k)*p))∧Own w.heap.size wr v5 L∧Below w.heap.size w wr) (fun _ _ v7 _=>l.length-(intOf v7).toNat)
 case atStart =>
  refine⟨0,0,_,rfl,rfl,by omega,hp0,?_,?_,Own.zeros (Nat.le_refl w.heap.size) q (q+l.length+1) (by omega) (by omega),?_⟩
  ·simp
  ·show _=_;simp [val,val_zeros]
  ·go_grown
 case round =>
  obtain⟨k,cy,L,rfl,rfl,hk,hcy,hL,HS,HO,HW⟩:=hrel
  obtain⟨i0,hi,hz0,hz1,hz2⟩:=info_parts info_u32
  by_cases hkn:k<l.length
  ·have hkn' : (k:Int)<(l.length:Int):=by omega
   obtain⟨b,off,rfl,hca⟩:=(H1.out.low HW).at hkn
   have hx:=Hb.getD k
   have HS' := Lib.hid (up_stepq hL HS)
   generalize l.getD k 0=x at *
   have hq:x*p≤4294967295*p:=Nat.mul_le_mul_right _ (by omega)
   have eq:(x:Int)*(p:Int)=((x*p:Nat):Int):=by simp
   have hor:=HOR.out cy x hcy hx
   generalize x*p=y at *
   clear HS
   have hB:=HW.size
   go_wp2_with (first|(at_builtin;go_loud (refine wpList_push rfl _ _ rfl w.heap.size _ L ((cy+y)%4294967296) _ HO HW hB rfl rfl (by omega) (by omega) (by omega) ?_;intro v' w1 HO1 HW1)))
   refine⟨?_,?_⟩
   ·exact⟨k+1,(cy+y)/4294967296,_,by go_num,by go_num,by omega,by omega,by simp [hL];omega,HS', HO1,HW1⟩
   ·simp [intOf];omega
  ·have hkn' : ¬ (k:Int)<(l.length:Int):=by omega
   have e:k=l.length:=by omega
   have HV:Hid (val (L++[cy])=val l*2^s):=by
    show _=_
    rw [val_snoc,hL,HS.out,e,List.take_length,hps.out]
    ac_rfl
   clear HS
   have hB:=HW.size
   go_wp2_with (first|(at_builtin;refine wpList_push rfl _ _ rfl w.heap.size _ L cy _ HO HW hB rfl rfl (by omega) (by omega) (by omega) ?_;intro v' w1 HO1 HW1))
   go_call (bigcut_any _ _ _ HO1.words) as _ _ ⟨rfl,rfl⟩
   go_wp2
   go_ret
   exact⟨_,rfl,⟨_,HO1.words.cut,trim_canon _,by rw [val_trim,HV.out]⟩,HW1⟩
end Go.Proofs.YtcboejgklgnifaaGreat
namespace Go.Proofs.YtcboejgklgnifaaGreat
open Go.RowKit Rgn
variable {S:Nat→Prop} {W:World}
theorem bLeft{v0:Value}(a:Nat)(n:Int)(t0:(MagP a).p S v0 W)(p0:bl a≤1099511627776)(p1:0≤n)(p2:n≤274877906944):Calls Tryz.prog 256 #[v0,.int .i64 n] W (Ret (RawP (a*2^n.toNat)) S W):=by
 obtain⟨l,h1,h2,h3,h4⟩:=Mag.words t0 p0
 subst h3
 obtain⟨k,rfl⟩:=Int.eq_ofNat_of_zero_le p1
 exact (bigleft_all v0 l k W h1 (by omega) (by omega)).mono fun e w' ⟨v,h1,⟨l', h2,_,h3⟩,h4⟩=>⟨v,h1,⟨l', h2,h3⟩,h4⟩
theorem bRight{v0:Value}(a:Nat)(n:Int)(t0:(MagP a).p S v0 W)(p0:bl a≤1099511627776)(p1:0≤n)(p2:n<32):Calls Tryz.prog 257 #[v0,.int .i64 n] W (Ret (RawP (a/2^n.toNat)) S W):=by
 obtain⟨l,h1,h2,h3,h4⟩:=Mag.words t0 p0
 subst h3
 obtain⟨k,rfl⟩:=Int.eq_ofNat_of_zero_le p1
 exact (bigright_any v0 l k W h1 (by omega) (by omega)).mono fun e w' ⟨v,h1,⟨l', h2,_,h3⟩,h4⟩=>⟨v,h1,⟨l', h2,h3⟩,h4⟩
theorem sgn_shl(x:Int)(k:Nat):sgn (decide (x<0)) (x.natAbs*2^k)=x*2^k:=by
 have h:=sgn_self x
 have e:((2^k:Nat):Int)=2^k:=by simp
 revert h
 unfold sgn
 rw [Int.natCast_mul,e]
 generalize (2:Int)^k=p
 by_cases c:x<0<;>simp only [c,decide_true,decide_false,if_true,Bool.false_eq_true,if_false]<;>intro h
 ·rw [← Int.neg_mul,h]
 ·rw [h]
theorem sgn_shr{x:Int}(h:0≤x)(k:Nat):sgn false (x.natAbs/2^k)=x/2^k:=by
 show ((x.natAbs/2^k:Nat):Int)=_
 rw [Int.natCast_ediv,Int.natAbs_of_nonneg h];simp
def isqA(n:Nat):Nat→Nat
 | 0=>0
 | k+1=>if (k+1)*(k+1)≤n then k+1 else isqA n k
def isq(n:Nat):Nat:=isqA n n
theorem isqA_le(n:Nat):∀ k,isqA n k*isqA n k≤n
 | 0=>by simp [isqA]
 | k+1=>by
  unfold isqA
  split
  ·assumption
  ·exact isqA_le n k
theorem isqA_ge(n:Nat):∀ k m,m≤k→m*m≤n→m≤isqA n k
 | 0,m,h,_=>by omega
 | k+1,m,h,h2=>by
  unfold isqA
  split
  ·omega
  ·rename_i c
   rcases Nat.lt_or_ge k m with e|e
   ·have:m=k+1:=by omega
    subst this;exact absurd h2 c
   ·exact isqA_ge n k m e h2
theorem isq_le(n:Nat):isq n*isq n≤n:=isqA_le n n
theorem le_isq{n m:Nat}(h:m*m≤n):m≤isq n:=isqA_ge n n m (by
 rcases Nat.eq_zero_or_pos m with e|e
 ·omega
 ·exact Nat.le_trans (Nat.le_mul_of_pos_left m e) h) h
theorem isq_eq{n m:Nat}(h:m*m≤n)(h2:isq n≤m):isq n=m:=Nat.le_antisymm h2 (le_isq h)
theorem isq_sq(m:Nat):isq (m*m)=m:=by
 refine isq_eq (Nat.le_refl _) ?_
 have h:=isq_le (m*m)
 rcases Nat.lt_or_ge m (isq (m*m)) with e|e
 ·have:=Nat.mul_lt_mul'' e e;omega
 ·exact e
def SqI(x r:Int):Prop:=0<x∧0<r∧(isq x.natAbs:Int)≤r∧hi r≤hi x+2
theorem sqi_start{x:Int}(h:0≤x)(h2:(x.sign == 0)=false):SqI x ((1:Int)*2^((((bl x.natAbs:Nat):Int)/2+1)).toNat):=by
 have hx:0<x:=by
  rcases Int.lt_or_eq_of_le h with e|e
  ·exact e
  ·subst e;simp at h2
 have e:((((bl x.natAbs:Nat):Int)/2+1)).toNat=bl x.natAbs/2+1:=by omega
 rw [e,Int.one_mul]
 have e2:(2:Int)^(bl x.natAbs/2+1)=((2^(bl x.natAbs/2+1):Nat):Int):=by simp
 rw [e2]
 refine⟨hx,by have:=Nat.pow_pos (a:=2) (n:=bl x.natAbs/2+1) (by decide);omega,?_,?_⟩
 ·have h3:=isq_le x.natAbs
  have h4:=bl_le.1 (Nat.le_refl (bl x.natAbs))
  have h5:2^(bl x.natAbs)≤2^(bl x.natAbs/2+1)*2^(bl x.natAbs/2+1):=by
   rw [← Nat.pow_add];exact Nat.pow_le_pow_right (by decide) (by omega)
  generalize 2^(bl x.natAbs/2+1)=p at *
  rcases Nat.lt_or_ge p (isq x.natAbs) with c|c
  ·have:=Nat.mul_lt_mul'' c c;omega
  ·omega
 ·have:bl (2^(bl x.natAbs/2+1))≤bl x.natAbs/2+2:=bl_le.2 (Nat.pow_lt_pow_right (by decide) (by omega))
  simp only [hi,Int.natAbs_natCast];omega
theorem sqi_q{x r:Int}(h:SqI x r):x.tdiv r=x/r∧0≤x/r:=by
 obtain⟨h1,h2,-,-⟩:=h
 exact⟨Int.tdiv_eq_ediv_of_nonneg (by omega),Int.ediv_nonneg (by omega) (by omega)⟩
theorem sqi_two(a:Int):a/2^(1:Int).toNat=a/2:=rfl
theorem sqi_h{x r:Int}(h:SqI x r)(p:hi x≤68719476736):hi x+hi r≤1099511627776∧r≠0∧hi (x.tdiv r)+hi r≤1099511627776∧hi (x.tdiv r+r)≤1099511627776∧0≤x.tdiv r+r∧hi ((x.tdiv r+r)/2^(1:Int).toNat)+hi r≤1099511627776∧hi r≤1099511627776:=by
 obtain⟨e,e0⟩:=sqi_q h
 obtain⟨h1,h2,h3,h4⟩:=h
 have h5:=hi_tdiv x r
 have h6:=hi_add (x.tdiv r) r
 have h7:hi ((x.tdiv r+r)/2^(1:Int).toNat)≤hi (x.tdiv r+r):=by
  rw [sqi_two];unfold hi
  have:=@bl_mono ((x.tdiv r+r)/2).natAbs (x.tdiv r+r).natAbs (by rw [e];generalize x/r=q at *;clear h4 h5 h6 p e h3;omega)
  omega
 refine⟨by omega,by omega,by omega,by omega,by omega,by omega,by omega⟩
theorem sqi_step{x r:Int}(h:SqI x r)(h2:¬ 0≤icmp ((x.tdiv r+r)/2^(1:Int).toNat) r):SqI x ((x.tdiv r+r)/2^(1:Int).toNat)∧((x.tdiv r+r)/2^(1:Int).toNat).toNat<r.toNat:=by
 obtain⟨e,e0⟩:=sqi_q h
 obtain⟨h1,h3,h4,h5⟩:=h
 rw [sqi_two,e] at h2 ⊢
 have h6:(x/r+r)/2<r:=by
  rcases Int.lt_or_le ((x/r+r)/2) r with c|c
  ·exact c
  ·exfalso;apply h2;unfold icmp;split<;>(try split)<;>omega
 have s1:1≤isq x.natAbs:=le_isq (by omega)
 have s2:(isq x.natAbs:Int)*(isq x.natAbs:Int)≤x:=by
  have:=isq_le x.natAbs
  have e3:((isq x.natAbs*isq x.natAbs:Nat):Int)=(isq x.natAbs:Int)*(isq x.natAbs:Int):=by simp
  omega
 have h7:2*(isq x.natAbs:Int)-r≤x/r:=by
  rw [Int.le_ediv_iff_mul_le h3]
  have h8:0≤(r-(isq x.natAbs:Int))*(r-(isq x.natAbs:Int)):=Int.mul_nonneg (by omega) (by omega)
  have h9:(2*(isq x.natAbs:Int)-r)*r=(isq x.natAbs:Int)*(isq x.natAbs:Int)-(r-(isq x.natAbs:Int))*(r-(isq x.natAbs:Int)):=by grind
  omega
 refine⟨⟨h1,by omega,by omega,?_⟩,by omega⟩
 have:=@bl_mono ((x/r+r)/2).natAbs r.natAbs (by omega)
 unfold hi at *;omega
theorem sqi_end{x r:Int}(h:SqI x r)(h2:0≤icmp ((x.tdiv r+r)/2^(1:Int).toNat) r):r=(isq x.natAbs:Int):=by
 obtain⟨e,e0⟩:=sqi_q h
 obtain⟨h1,h3,h4,h5⟩:=h
 rw [sqi_two,e] at h2
 have h6:r≤(x/r+r)/2:=by
  rcases Int.lt_or_le ((x/r+r)/2) r with c|c
  ·exfalso;rw [icmp_lt c] at h2;exact absurd h2 (by decide)
  ·exact c
 have h7:r≤x/r:=by omega
 rw [Int.le_ediv_iff_mul_le h3] at h7
 obtain⟨n,rfl⟩:=Int.eq_ofNat_of_zero_le (Int.le_of_lt h3)
 have h8:n*n≤x.natAbs:=by
  have:((n*n:Nat):Int)=(n:Int)*(n:Int):=by simp
  omega
 have:=le_isq h8
 omega
theorem sign_pos{x:Int}(h:0<x):(x.sign == 0)=false:=by rw [Int.sign_eq_one_of_pos h];rfl
theorem isq_zero{x:Int}(h:(x.sign == 0)=true):sgn false 0=(isq x.natAbs:Int):=by
 have:x=0:=Int.sign_eq_zero_iff_zero.1 (eq_of_beq h)
 subst this;rfl
theorem raw_nil{w:World}:(RawP 0).p (fun _=>False) (.slice none 0 0) w:=⟨[],.inl ⟨rfl,rfl⟩,rfl⟩
theorem bLsh{z:Nat}{v1:Value}(x n:Int)(hz:IntBlk W z)(t1:(IntP x).p S v1 W)(p0:hi x≤1099511627776)(p1:0≤n)(p2:n≤274877906944):Calls Tryz.prog 239 #[.pointer (some ⟨z,0,none⟩),v1,.int .u64 n] W (RetOwn z (IntO (x*2^n.toNat)) W):=by
 have hS_:∃ S' : Nat→Prop,S' z∧(IntP x).p S' v1 W:=⟨fun k=>S k∨k=z,.inr rfl,(IntP x).mono (fun _ _ h=>.inl h) t1⟩
 clear t1
 obtain⟨S,L_z,t1⟩:=hS_
 replace L_z:Amb S W z:=.inl L_z
 obtain⟨z_0,z_1,B_z⟩:=hz
 obtain⟨b1,ob1,rfl,L1,F1⟩:=IntP.elim t1
 replace L1:Amb S W b1:=.inl L1
 have q0:=hi_bl x
 have bel:Only z W W:=Only.refl _ _
 go_enter Tryz.func239,Tryz.ntmps239
 refine gs 1 (Amb S W) fun _ K2=>?_
 refine .mc rfl ?_
 refine .dg (fun u=>pt z::.pointer (some ⟨b1,ob1,none⟩)::.int .u64 n::U::U::U::u 0::us 13) K2 bel.size fun u1 w1 D=>?_
 have E1_0:=D.q 0
 replace B_z:=D.k B_z
 replace F1:=D.o L1 F1
 replace bel:=D.d.base.only0 bel
 clear D
 refine wp_seq_k fun _ K3=>?_
 refine go2_drawnT (by kernel_rfl) 12 2 rfl (by decide) (by kernel_rfl) (Amb S W) [] [] (Olds.nil _) (by kernel_rfl) ?_
 refine .mz rfl 0 (V:=pt z) rfl ?_
 refine .mz rfl 1 (V:=.pointer (some ⟨b1,ob1,none⟩)) rfl ?_
 refine .nc rfl 1 ?_
 refine .fj rfl 2 ob1 ?_
 refine .e rfl (V:=.bool (decide (x<0))) (fun H=>by have e10:=H.g 10 3;have c1:=IntP.c0 (k:=ob1) (VP.any _ (H.was _ [] (VP.at F1 L1))) rfl;clear H;go_simp) ?_
 refine .mz rfl 1 (V:=.pointer (some ⟨b1,ob1,none⟩)) rfl ?_
 refine .nc rfl 5 ?_
 refine .fj rfl 6 (ob1+1) ?_
 refine Go2.fn (i:=8) rfl (G0 rfl) (.val 8 [] (MagP x.natAbs)) (fun u μ ρ H=>by have e14:=H.g 14 7;obtain⟨v_,c1,hm_⟩:=IntP.c1 (k:=ob1+1) (VP.any _ (H.was _ [] (VP.at F1 L1))) rfl;exact⟨v_,by clear H hm_;go_simp,SP.magVal hm_⟩) ?_
 refine .mz rfl 2 (V:=.int .u64 n) rfl ?_
 refine .e rfl (V:=.int .i64 (n)) (fun H=>by have e16:=H.g 16 9;have aw_:IntKind.wrap .i64 (n)=n:=IntWalk.i64_in _ (by omega);clear H;go_simp) ?_
 refine .cR rfl [8] Tryz.func256 (fun H=>⟨_,ar2 (H.r 15 8) (H.g 17 10),bLeft _ _ (SV.sub [8] (H.a 8 rfl) rfl) (by omega) (by omega) (by omega)⟩) ?_
 refine .dT (fun u=>pt z::.pointer (some ⟨b1,ob1,none⟩)::.int .u64 n::U::U::U::u 13::sq u 0 13 []) bel.size _ rfl fun u2 w2 D=>?_
 obtain⟨x4,E2_11,F_x4⟩:∃ x_,(u2 11).v=x_∧(RawP (x.natAbs*2^(n).toNat)).p (Amb S W) x_ w2:=⟨_,rfl,D.rr 11⟩
 have E2_0:=D.q 0
 have E2_4:=D.q 4
 replace B_z:=D.k B_z
 replace bel:=D.d.base.only0 bel
 clear D
 refine wpT_callO (args:=#[pt z,.bool (decide (x<0)),x4]) rfl (ex_call rfl rfl Tryz.func221 (by kernel_rfl) (by kernel_rfl) (by simp only [List.map_toArray,List.map_cons,List.map_nil];show #[(u2 0).v,(u2 4).v,(u2 11).v]=#[pt z,.bool (decide (x<0)),x4];rw [E2_0,E2_4,E2_11])) (bIs (z:=z) (neg:=(decide (x<0))) (n:=x.natAbs*2^(n).toNat) (IntBlk.of B_z) (VP.any _ F_x4) ) fun w5 fw5 ow5=>?_
 have sw5:Soft w2 z∨Local w2 z:=.inl ⟨_,_,B_z,rfl⟩
 replace F_x4:(RawP (x.natAbs*2^(n).toNat)).p (Amb S W) x4 w5:=(RawP (x.natAbs*2^(n).toNat)).grow (S:=fun _=>False) (Rgn.Only.growF ow5 sw5) F_x4
 have F_z:=fw5
 replace bel:=bel.trans ow5
 refine wpT_val rfl (ex_assign rfl) ?_
 refine wpList_nil ?_
 show _
 refine K3 _ _ ?_
 refine wp_ret ?_
 refine ret_ok rfl (by exact results_tmp' rfl rfl) ⟨rfl,?_,bel⟩
 exact into_eq (sgn_shl x n.toNat) F_z
theorem bRsh{z:Nat}{v1:Value}(x n:Int)(hz:IntBlk W z)(t1:(IntP x).p S v1 W)(p0:hi x≤1099511627776)(p1:0≤n)(p2:n<32)(p3:0≤x):Calls Tryz.prog 241 #[.pointer (some ⟨z,0,none⟩),v1,.int .u64 n] W (RetOwn z (IntO (x/2^n.toNat)) W):=by
 have hS_:∃ S' : Nat→Prop,S' z∧(IntP x).p S' v1 W:=⟨fun k=>S k∨k=z,.inr rfl,(IntP x).mono (fun _ _ h=>.inl h) t1⟩
 clear t1
 obtain⟨S,L_z,t1⟩:=hS_
 replace L_z:Amb S W z:=.inl L_z
 obtain⟨z_0,z_1,B_z⟩:=hz
 obtain⟨b1,ob1,rfl,L1,F1⟩:=IntP.elim t1
 replace L1:Amb S W b1:=.inl L1
 have q0:=hi_bl x
 have k0:decide (x<0)=false:=decide_eq_false (by omega)
 have bel:Only z W W:=Only.refl _ _
 go_enter Tryz.func241,Tryz.ntmps241
 refine gs 1 (Amb S W) fun _ K2=>?_
 refine .mc rfl ?_
 refine .dg (fun u=>pt z::.pointer (some ⟨b1,ob1,none⟩)::.int .u64 n::U::U::U::u 0::us 34) K2 bel.size fun u1 w1 D=>?_
 have E1_0:=D.q 0
 replace B_z:=D.k B_z
 replace F1:=D.o L1 F1
 replace bel:=D.d.base.only0 bel
 clear D
 refine gs 8 (Amb S W) fun _ K3=>?_
 refine .mz rfl 1 (V:=.pointer (some ⟨b1,ob1,none⟩)) rfl ?_
 refine .nc rfl 0 ?_
 refine .fj rfl 1 (ob1+1) ?_
 refine Go2.fn (i:=3) rfl (G0 rfl) (.val 3 [] (MagP x.natAbs)) (fun u μ ρ H=>by have e10:=H.g 10 2;obtain⟨v_,c1,hm_⟩:=IntP.c1 (k:=ob1+1) (VP.any _ (H.was _ [] (VP.at F1 L1))) rfl;exact⟨v_,by clear H hm_;go_simp,SP.magVal hm_⟩) ?_
 refine .mz rfl 2 (V:=.int .u64 n) rfl ?_
 refine .e rfl (V:=.int .i64 (n)) (fun H=>by have e12:=H.g 12 4;have aw_:IntKind.wrap .i64 (n)=n:=IntWalk.i64_in _ (by omega);clear H;go_simp) ?_
 refine .cR rfl [3] Tryz.func257 (fun H=>⟨_,ar2 (H.r 11 3) (H.g 13 5),bRight _ _ (SV.sub [3] (H.a 3 rfl) rfl) (by omega) (by omega) (by omega)⟩) ?_
 refine .mn rfl 6 [3,6] ?_
 refine .dg (fun u=>pt z::.pointer (some ⟨b1,ob1,none⟩)::.int .u64 n::U::U::U::u1 0::u 7::sq u 0 7 (us 26)) K3 bel.size fun u2 w2 D=>?_
 obtain⟨x4,E2_7,F_x4⟩:∃ x_,(u2 7).v=x_∧(RawP (x.natAbs/2^(n).toNat)).p (Amb S W) x_ w2:=⟨_,rfl,D.rr 7⟩
 replace B_z:=D.k B_z
 replace F1:=D.o L1 F1
 replace bel:=D.d.base.only0 bel
 clear D
 refine wp_seq_k fun _ K5=>?_
 refine gd 16 (Amb S W) fun _ K6=>?_
 refine .mz rfl 1 (V:=.pointer (some ⟨b1,ob1,none⟩)) rfl ?_
 refine .nc rfl 0 ?_
 refine .fj rfl 1 ob1 ?_
 refine .e rfl (V:=.bool false) (fun H=>by have e17:=H.g 17 2;have c1:=IntP.c0 (k:=ob1) (VP.any _ (H.was _ [] (VP.at F1 L1))) rfl;have k_:=k0;clear H;go_simp) ?_
 refine .mv rfl 3 ?_
 refine .sk rfl 4 ?_
 refine .sk rfl 4 ?_
 refine .sk rfl 4 ?_
 refine .sk rfl 4 ?_
 refine .sk rfl 4 ?_
 refine .sk rfl 4 ?_
 refine .sk rfl 4 ?_
 refine .sk rfl 4 ?_
 refine .sk rfl 4 ?_
 refine .sk rfl 4 ?_
 refine .e rfl (fun H=>x_pkF (H.g 19 4) (H.c _)) ?_
 refine .dg (fun u=>pt z::.pointer (some ⟨b1,ob1,none⟩)::.int .u64 n::U::U::U::u1 0::u2 7::sq u2 0 7 (sq u 0 16 (us 10))) K6 bel.size fun u3 w3 D=>?_
 have E3_15:=D.q 15
 replace B_z:=D.k B_z
 replace F1:=D.o L1 F1
 replace F_x4:=D.gr (RawP (x.natAbs/2^(n).toNat)) F_x4
 replace bel:=D.d.base.only0 bel
 clear D
 refine wp_cond_false (by exact E3_15) ?_
 refine wp_skip ?_
 refine K5 _ _ ?_
 refine wp_seq_k fun _ K7=>?_
 refine go2_seqT 6 2 rfl (Amb S W) [] [] (Olds.nil _) (by kernel_rfl) ?_
 refine .mz rfl 0 (V:=pt z) rfl ?_
 refine .mz rfl 1 (V:=.pointer (some ⟨b1,ob1,none⟩)) rfl ?_
 refine .nc rfl 1 ?_
 refine .fj rfl 2 ob1 ?_
 refine .e rfl (V:=.bool false) (fun H=>by have e37:=H.g 37 3;have c1:=IntP.c0 (k:=ob1) (VP.any _ (H.was _ [] (VP.at F1 L1))) rfl;have k_:=k0;clear H;go_simp) ?_
 refine .mz rfl 7 E2_7 ?_
 refine .dT (fun u=>pt z::.pointer (some ⟨b1,ob1,none⟩)::.int .u64 n::U::U::U::u 7::u2 7::sq u2 0 7 (sq u3 0 16 (U::U::U::sq u 0 7 []))) bel.size _ rfl fun u4 w4 D=>?_
 have E4_0:=D.q 0
 have E4_4:=D.q 4
 have E4_5:=D.q 5
 replace B_z:=D.k B_z
 replace F_x4:=D.gr (RawP (x.natAbs/2^(n).toNat)) F_x4
 replace bel:=D.d.base.only0 bel
 clear D
 refine wpT_callO (args:=#[pt z,.bool false,x4]) rfl (ex_call rfl rfl Tryz.func221 (by kernel_rfl) (by kernel_rfl) (by simp only [List.map_toArray,List.map_cons,List.map_nil];show #[(u4 0).v,(u4 4).v,(u4 5).v]=#[pt z,.bool false,x4];rw [E4_0,E4_4,E4_5])) (bIs (z:=z) (neg:=false) (n:=x.natAbs/2^(n).toNat) (IntBlk.of B_z) (VP.any _ F_x4) ) fun w8 fw8 ow8=>?_
 have sw8:Soft w4 z∨Local w4 z:=.inl ⟨_,_,B_z,rfl⟩
 replace F_x4:(RawP (x.natAbs/2^(n).toNat)).p (Amb S W) x4 w8:=(RawP (x.natAbs/2^(n).toNat)).grow (S:=fun _=>False) (Rgn.Only.growF ow8 sw8) F_x4
 have F_z:=fw8
 replace bel:=bel.trans ow8
 refine wpT_val rfl (ex_assign rfl) ?_
 refine wpList_nil ?_
 show _
 refine K7 _ _ ?_
 refine wp_ret ?_
 refine ret_ok rfl (by exact results_tmp' rfl rfl) ⟨rfl,?_,bel⟩
 exact into_eq (sgn_shr p3 n.toNat) F_z
theorem bSqrtP{z:Nat}{v1:Value}(x:Int)(hz:IntBlk W z)(t1:(IntP x).p S v1 W)(p0:hi x≤68719476736)(p1:0<x):Calls Tryz.prog 202 #[.pointer (some ⟨z,0,none⟩),v1] W (RetOwn z (IntO (isq x.natAbs:Int)) W):=by
 have hS_:∃ S' : Nat→Prop,S' z∧(IntP x).p S' v1 W:=⟨fun k=>S k∨k=z,.inr rfl,(IntP x).mono (fun _ _ h=>.inl h) t1⟩
 clear t1
 obtain⟨S,L_z,t1⟩:=hS_
 replace L_z:Amb S W z:=.inl L_z
 obtain⟨z_0,z_1,B_z⟩:=hz
 obtain⟨b1,ob1,rfl,L1,F1⟩:=IntP.elim t1
 replace L1:Amb S W b1:=.inl L1
 have q0:=hi_bl x
 have h1_:hi (1:Int)=2:=by decide
 have k0:(x.sign == 0)=false:=sign_pos p1
 have bel:Only z W W:=Only.refl _ _
 go_enter Tryz.func202,Tryz.ntmps202
 refine gs 1 (Amb S W) fun _ K2=>?_
 refine .mc rfl ?_
 refine .dg (fun u=>pt z::.pointer (some ⟨b1,ob1,none⟩)::U::U::u 0::us 33) K2 bel.size fun u1 w1 D=>?_
 have E1_0:=D.q 0
 replace B_z:=D.k B_z
 replace F1:=D.o L1 F1
 replace bel:=D.d.base.only0 bel
 clear D
 refine wp_seq_k fun _ K3=>?_
 refine gs 3 (Amb S W) fun _ K4=>?_
 refine .mz rfl 1 (V:=.pointer (some ⟨b1,ob1,none⟩)) rfl ?_
 refine .cK rfl Tryz.func167 (fun H=>⟨_,ar1 (H.g 7 0),bSign _ (VP.any _ (H.was _ [] (VP.at F1 L1)))⟩) ?_
 refine .e rfl (V:=.bool false) (fun H=>x_cm (H.g 8 1) (H.c _) k0) ?_
 refine .dg (fun u=>pt z::.pointer (some ⟨b1,ob1,none⟩)::U::U::u1 0::U::U::sq u 0 3 (us 28)) K4 bel.size fun u2 w2 D=>?_
 have E2_2:=D.q 2
 replace B_z:=D.k B_z
 replace F1:=D.o L1 F1
 replace bel:=D.d.base.only0 bel
 clear D
 refine wp_cond_false (by exact E2_2) ?_
 refine wp_skip ?_
 refine K3 _ _ ?_
 refine gs 9 (Amb S W) fun _ K5=>?_
 refine .al rfl zI ?_
 refine .cR rfl [] Tryz.func201 (fun H=>⟨_,ar1 (H.c (.int .i64 1)),bNewInt _ (by first|omega|(have sh_:=sqi_h i0 p0;first|omega|exact sh_.1|exact sh_.2.1|exact sh_.2.2.1|exact sh_.2.2.2.1|exact sh_.2.2.2.2.1)) (by first|omega|(have sh_:=sqi_h i0 p0;first|omega|exact sh_.1|exact sh_.2.1|exact sh_.2.2.1|exact sh_.2.2.2.1|exact sh_.2.2.2.2.1))⟩) ?_
 refine .mz rfl 1 (V:=.pointer (some ⟨b1,ob1,none⟩)) rfl ?_
 refine .cK rfl Tryz.func240 (fun H=>⟨_,ar1 (H.g 14 2),bBitLen _ (VP.any _ (H.was _ [] (VP.at F1 L1))) (by first|omega|(have sh_:=sqi_h i0 p0;first|omega|exact sh_.1|exact sh_.2.1|exact sh_.2.2.1|exact sh_.2.2.2.1|exact sh_.2.2.2.2.1))⟩) ?_
 refine .e rfl (V:=.int .i64 (((bl x.natAbs:Nat):Int)/2)) (fun H=>by have e15:=H.g 15 3;have k1:=H.c (.int .i64 2);have a0_:0≤((bl x.natAbs:Nat):Int):=(by omega);have aw_:IntKind.wrap .i64 (((bl x.natAbs:Nat):Int)/2)=((bl x.natAbs:Nat):Int)/2:=IntWalk.i64_in _ (by omega);clear H;go_simp) ?_
 refine .e rfl (V:=.int .i64 ((((bl x.natAbs:Nat):Int)/2)+1)) (fun H=>x_ari (H.g 16 4) (H.c _) (IntWalk.i64_in _ (by omega))) ?_
 refine .e rfl (V:=.int .u64 ((((bl x.natAbs:Nat):Int)/2)+1)) (fun H=>by have e17:=H.g 17 5;have aw_:IntKind.wrap .u64 ((((bl x.natAbs:Nat):Int)/2)+1)=(((bl x.natAbs:Nat):Int)/2)+1:=IntWalk.u64_in _ (by omega);clear H;go_simp) ?_
 refine .cO rfl 0 Tryz.func239 (fun H h0 hz=>⟨_,ar3 (H.p 12 0 h0) (H.r 13 1) (H.g 18 6),bLsh _ _ (IntBlk.of hz) (IntO.p (SV.any (H.a 1 rfl))) (by first|omega|(have sh_:=sqi_h i0 p0;first|omega|exact sh_.1|exact sh_.2.1|exact sh_.2.2.1|exact sh_.2.2.2.1|exact sh_.2.2.2.2.1)) (by first|omega|(have sh_:=sqi_h i0 p0;first|omega|exact sh_.1|exact sh_.2.1|exact sh_.2.2.1|exact sh_.2.2.2.1|exact sh_.2.2.2.2.1)) (by first|omega|(have sh_:=sqi_h i0 p0;first|omega|exact sh_.1|exact sh_.2.1|exact sh_.2.2.1|exact sh_.2.2.2.1|exact sh_.2.2.2.2.1))⟩) ?_
 refine .mo rfl 7 ?_
 refine .dg (fun u=>pt z::.pointer (some ⟨b1,ob1,none⟩)::U::U::u1 0::u 8::U::sq u2 0 3 (U::U::sq u 0 8 (us 18))) K5 bel.size fun u3 w3 D=>?_
 obtain⟨b6,E3_8,A6,F6⟩:=D.ow 8
 have N_z_b6:=D.n1 0 (lt_of B_z) ((D.a 8 rfl).1.symm.trans E3_8)
 replace B_z:=D.k B_z
 replace F1:=D.o L1 F1
 have L6:Amb S W b6:=.inr A6
 replace bel:=D.d.base.only0 bel
 clear D
 refine wp_block ?_
 refine wp_loop_ghost_k (fun n_ a_ w_=>∃ d4:Value,∃ s5:Value,∃ d6:Value,∃ d20:Value,∃ d21:Value,∃ d22:Value,∃ d23:Value,∃ d24:Value,∃ d25:Value,∃ d26:Value,∃ d27:Value,∃ d28:Value,∃ d29:Value,∃ d30:Value,∃ d31:Value,∃ d32:Value,∃ d33:Value,∃ d34:Value,∃ d35:Value,∃ d36:Value,∃ d37:Value,∃ r:Int,a_=fr (pt z::.pointer (some ⟨b1,ob1,none⟩)::U::U::d4::s5::d6::sq u2 0 3 (U::U::sq u3 0 8 (d20::d21::d22::d23::d24::d25::d26::d27::d28::d29::d30::d31::d32::d33::d34::d35::d36::d37::[])))∧n_=r.toNat∧SqI x r∧(IntO r).p (Amb S W) s5 w_∧w_.heap[z]? = some (.cells #[z_0,z_1] 191 (0,0))∧(IntP x).p (·=b1) (.pointer (some ⟨b1,ob1,none⟩)) w_∧Only z W w_) (((1:Int)*2^((((bl x.natAbs:Nat):Int)/2+1)).toNat).toNat) ⟨_,_,_,_,_,_,_,_,_,_,_,_,_,_,_,_,_,_,_,_,_,(1:Int)*2^((((bl x.natAbs:Nat):Int)/2+1)).toNat,rfl,rfl,by exact sqi_start (Int.le_of_lt p1) k0,(by rw [E3_8];exact (VP.at F6 L6)),B_z,F1,bel⟩ ?_
 clear B_z F1 F6 bel
 rintro n_ _ w7 ⟨d4,s5,d6,d20,d21,d22,d23,d24,d25,d26,d27,d28,d29,d30,d31,d32,d33,d34,d35,d36,d37,r,rfl,hn10,i0,f5,B_z,F1,bel⟩ J8 K9 hJ8 hK9
 obtain⟨b11,rfl,L11,F11⟩:=IntO.elim f5
 refine wp_block ?_
 refine gs 5 (Amb S W) fun _ K12=>?_
 refine .al rfl zI ?_
 refine .mz rfl 1 (V:=.pointer (some ⟨b1,ob1,none⟩)) rfl ?_
 refine .mz rfl 5 (V:=pt b11) rfl ?_
 refine .cO rfl 0 Tryz.func235 (fun H h0 hz=>⟨_,ar3 (H.p 20 0 h0) (H.g 21 1) (H.g 22 2),bQuo _ _ (IntBlk.of hz) (VP.any _ (H.was _ [] (VP.at F1 L1))) (IntO.p (VP.any _ (H.was _ [] (VP.at F11 L11)))) (by first|omega|(have sh_:=sqi_h i0 p0;first|omega|exact sh_.1|exact sh_.2.1|exact sh_.2.2.1|exact sh_.2.2.2.1|exact sh_.2.2.2.2.1)) (by first|omega|(have sh_:=sqi_h i0 p0;first|omega|exact sh_.1|exact sh_.2.1|exact sh_.2.2.1|exact sh_.2.2.2.1|exact sh_.2.2.2.2.1))⟩) ?_
 refine .mo rfl 3 ?_
 refine .dg (fun u=>pt z::.pointer (some ⟨b1,ob1,none⟩)::U::U::d4::pt b11::u 4::sq u2 0 3 (U::U::sq u3 0 8 (sq u 0 4 (d24::d25::d26::d27::d28::d29::d30::d31::d32::d33::d34::d35::d36::d37::[])))) K12 bel.size fun u4 w4 D=>?_
 obtain⟨b13,E4_4,A13,F13⟩:=D.ow 4
 have N_z_b13:=D.n1 0 (lt_of B_z) ((D.a 4 rfl).1.symm.trans E4_4)
 have N1_13:=D.n1 0 (IntP.lt F1) ((D.a 4 rfl).1.symm.trans E4_4)
 have N11_13:=D.n1 0 (IntO.lt F11) ((D.a 4 rfl).1.symm.trans E4_4)
 replace B_z:=D.k B_z
 replace F1:=D.o L1 F1
 replace F11:=D.o L11 F11
 have L13:Amb S W b13:=.inr A13
 replace bel:=D.d.base.only0 bel
 clear D
 refine wp_seq_k fun _ K14=>?_
 refine go2_seqT 4 2 rfl (Amb S W) [] [] (Olds.nil _) (by kernel_rfl) ?_
 refine .mz rfl 6 E4_4 ?_
 refine .mz rfl 6 E4_4 ?_
 refine .mz rfl 6 E4_4 ?_
 refine .mz rfl 5 (V:=pt b11) rfl ?_
 refine .dT (fun u=>pt z::.pointer (some ⟨b1,ob1,none⟩)::U::U::d4::pt b11::u4 4::sq u2 0 3 (U::U::sq u3 0 8 (sq u4 0 4 (sq u 0 6 (d30::d31::d32::d33::d34::d35::d36::d37::[]))))) bel.size _ rfl fun u5 w5 D=>?_
 have E5_0:=D.q 0
 have E5_1:=D.q 1
 have E5_2:=D.q 2
 have E5_3:=D.q 3
 replace B_z:=D.k B_z
 replace F1:=D.o L1 F1
 replace F11:=D.o L11 F11
 replace F13:=D.o L13 F13
 replace bel:=D.d.base.only0 bel
 clear D
 refine wpT_callO (args:=#[pt b13,pt b13,pt b11]) rfl (ex_call rfl rfl Tryz.func203 (by kernel_rfl) (by kernel_rfl) (by simp only [List.map_toArray,List.map_cons,List.map_nil];show #[(u5 1).v,(u5 2).v,(u5 3).v]=#[pt b13,pt b13,pt b11];rw [E5_1,E5_2,E5_3])) (bAdd (z:=b13) (x:=x.tdiv r) (y:=r) (IntO.blk F13) (IntO.p (VP.any _ F13)) (IntO.p (VP.any _ F11)) (by first|omega|(have sh_:=sqi_h i0 p0;first|omega|exact sh_.1|exact sh_.2.1|exact sh_.2.2.1|exact sh_.2.2.2.1|exact sh_.2.2.2.2.1))) fun w15 fw15 ow15=>?_
 have sw15:Soft w5 b13∨Local w5 b13:=.inl (IntO.soft F13)
 replace B_z:=ow15.keep B_z N_z_b13
 replace F1:=ow15.one sw15 _ N1_13 F1
 replace F11:=ow15.one sw15 _ N11_13 F11
 have F13:=fw15
 have L13:Amb S W b13:=.inr A13
 replace bel:=Only.other ow15 A13 bel.size bel
 refine wpT_callO (args:=#[pt b13,pt b13,.int .u64 1]) rfl (ex_call rfl rfl Tryz.func241 (by kernel_rfl) (by kernel_rfl) (by simp only [List.map_toArray,List.map_cons,List.map_nil];show #[(u5 0).v,.pointer (some ⟨b13,0,none⟩),.int .u64 1]=#[pt b13,pt b13,.int .u64 1];rw [E5_0])) (bRsh (z:=b13) (x:=(x.tdiv r)+r) (n:=(1:Int)) (IntO.blk F13) (IntO.p (VP.any _ F13)) (by first|omega|(have sh_:=sqi_h i0 p0;first|omega|exact sh_.1|exact sh_.2.1|exact sh_.2.2.1|exact sh_.2.2.2.1|exact sh_.2.2.2.2.1)) (by first|omega|(have sh_:=sqi_h i0 p0;first|omega|exact sh_.1|exact sh_.2.1|exact sh_.2.2.1|exact sh_.2.2.2.1|exact sh_.2.2.2.2.1)) (by first|omega|(have sh_:=sqi_h i0 p0;first|omega|exact sh_.1|exact sh_.2.1|exact sh_.2.2.1|exact sh_.2.2.2.1|exact sh_.2.2.2.2.1)) (by first|omega|(have sh_:=sqi_h i0 p0;first|omega|exact sh_.1|exact sh_.2.1|exact sh_.2.2.1|exact sh_.2.2.2.1|exact sh_.2.2.2.2.1))) fun w16 fw16 ow16=>?_
 have sw16:Soft w15 b13∨Local w15 b13:=.inl (IntO.soft F13)
 replace B_z:=ow16.keep B_z N_z_b13
 replace F1:=ow16.one sw16 _ N1_13 F1
 replace F11:=ow16.one sw16 _ N11_13 F11
 have F13:=fw16
 have L13:Amb S W b13:=.inr A13
 replace bel:=Only.other ow16 A13 bel.size bel
 refine wpList_nil ?_
 show _
 refine K14 _ _ ?_
 refine wp_seq_k fun _ K17=>?_
 refine gs 4 (Amb S W) fun _ K18=>?_
 refine .mz rfl 6 E4_4 ?_
 refine .mz rfl 5 (V:=pt b11) rfl ?_
 refine .cK rfl Tryz.func170 (fun H=>⟨_,ar2 (H.g 30 0) (H.g 31 1),bCmp _ _ (IntO.p (VP.any _ (H.was _ [] (VP.at F13 L13)))) (IntO.p (VP.any _ (H.was _ [] (VP.at F11 L11)))) (by first|omega|(have sh_:=sqi_h i0 p0;first|omega|exact sh_.1|exact sh_.2.1|exact sh_.2.2.1|exact sh_.2.2.2.1|exact sh_.2.2.2.2.1))⟩) ?_
 refine .e rfl (V:=.bool (decide (0≤(icmp (((x.tdiv r)+r)/2^(1:Int).toNat) r)))) (fun H=>x_cmp (H.g 32 2) (H.c _)) ?_
 refine .dg (fun u=>pt z::.pointer (some ⟨b1,ob1,none⟩)::U::U::d4::pt b11::u4 4::sq u2 0 3 (U::U::sq u3 0 8 (sq u4 0 4 (sq u5 0 4 (.pointer (some ⟨b13,0,none⟩)::.pointer (some ⟨b13,0,none⟩)::sq u 0 4 (d34::d35::d36::d37::[])))))) K18 bel.size fun u6 w6 D=>?_
 have E6_3:=D.q 3
 replace B_z:=D.k B_z
 replace F1:=D.o L1 F1
 replace F11:=D.o L11 F11
 replace F13:=D.o L13 F13
 replace bel:=D.d.base.only0 bel
 clear D
 rcases Bool.eq_false_or_eq_true (decide (0≤(icmp (((x.tdiv r)+r)/2^(1:Int).toNat) r))) with c19|c19
 ·
  refine wp_cond_true ((E6_3).trans (congrArg Value.bool c19)) ?_
  have dc19:=of_decide_eq_true c19
  refine wp_seq_k fun _ K20=>?_
  refine go2_seqT 2 2 rfl (Amb S W) [] [] (Olds.nil _) (by kernel_rfl) ?_
  refine .mz rfl 0 (V:=pt z) rfl ?_
  refine .mz rfl 5 (V:=pt b11) rfl ?_
  refine .dT (fun u=>pt z::.pointer (some ⟨b1,ob1,none⟩)::U::U::u 3::pt b11::u4 4::sq u2 0 3 (U::U::sq u3 0 8 (sq u4 0 4 (sq u5 0 4 (.pointer (some ⟨b13,0,none⟩)::.pointer (some ⟨b13,0,none⟩)::sq u6 0 4 (sq u 0 3 (d37::[]))))))) bel.size _ rfl fun u7 w7 D=>?_
  have E7_0:=D.q 0
  have E7_1:=D.q 1
  replace B_z:=D.k B_z
  replace F11:=D.o L11 F11
  replace bel:=D.d.base.only0 bel
  clear D
  refine wpT_callO (args:=#[pt z,pt b11]) rfl (ex_call rfl rfl Tryz.func236 (by kernel_rfl) (by kernel_rfl) (by simp only [List.map_toArray,List.map_cons,List.map_nil];show #[(u7 0).v,(u7 1).v]=#[pt z,pt b11];rw [E7_0,E7_1])) (bSet (z:=z) (x:=r) (IntBlk.of B_z) (IntO.p (VP.any _ F11)) (by first|omega|(have sh_:=sqi_h i0 p0;first|omega|exact sh_.1|exact sh_.2.1|exact sh_.2.2.1|exact sh_.2.2.2.1|exact sh_.2.2.2.2.1))) fun w21 fw21 ow21=>?_
  have sw21:Soft w7 z∨Local w7 z:=.inl ⟨_,_,B_z,rfl⟩
  have F_z:=fw21
  replace bel:=bel.trans ow21
  refine wpT_val rfl (ex_assign rfl) ?_
  refine wpList_nil ?_
  show _
  refine K20 _ _ ?_
  refine wp_ret ?_
  refine ret_ok rfl (by exact results_tmp' rfl rfl) ⟨rfl,?_,bel⟩
  exact into_eq (sqi_end i0 dc19) F_z
 ·
  refine wp_cond_false ((E6_3).trans (congrArg Value.bool c19)) ?_
  have dc19:=of_decide_eq_false c19
  refine wp_skip ?_
  refine K17 _ _ ?_
  refine go2_seq 2 rfl (Amb S W) [] [] (Olds.nil _) (by kernel_rfl) ?_
  refine .mz rfl 6 E4_4 ?_
  refine .mv rfl 0 ?_
  refine .dd (fun u=>⟨List.toArray (pt z::.pointer (some ⟨b1,ob1,none⟩)::U::U::d4::u 1::u4 4::sq u2 0 3 (U::U::sq u3 0 8 (sq u4 0 4 (sq u5 0 4 (.pointer (some ⟨b13,0,none⟩)::.pointer (some ⟨b13,0,none⟩)::sq u6 0 4 (d34::d35::d36::u 0::[])))))),[]⟩) bel.size fun u8 w8 D=>?_
  have E8_1:=D.q 1
  replace B_z:=D.k B_z
  replace F1:=D.o L1 F1
  replace F13:=D.o L13 F13
  replace bel:=D.d.base.only0 bel
  clear D
  refine inBlock_normal ?_
  refine hK9 _ _ (Handed.intro ((((x.tdiv r)+r)/2^(1:Int).toNat).toNat) (by rw [hn10];exact (sqi_step i0 dc19).2) (hJ8 _ _ _ ⟨_,_,_,_,_,_,_,_,_,_,_,_,_,_,_,_,_,_,_,_,_,((x.tdiv r)+r)/2^(1:Int).toNat,rfl,rfl,by exact (sqi_step i0 dc19).1,(by rw [E8_1];exact (VP.at F13 L13)),B_z,F1,bel⟩))
theorem bSqrtZ{z:Nat}{v1:Value}(x:Int)(hz:IntBlk W z)(t1:(IntP x).p S v1 W)(p0:x=0):Calls Tryz.prog 202 #[.pointer (some ⟨z,0,none⟩),v1] W (RetOwn z (IntO (isq x.natAbs:Int)) W):=by
 have hS_:∃ S' : Nat→Prop,S' z∧(IntP x).p S' v1 W:=⟨fun k=>S k∨k=z,.inr rfl,(IntP x).mono (fun _ _ h=>.inl h) t1⟩
 clear t1
 obtain⟨S,L_z,t1⟩:=hS_
 replace L_z:Amb S W z:=.inl L_z
 obtain⟨z_0,z_1,B_z⟩:=hz
 obtain⟨b1,ob1,rfl,L1,F1⟩:=IntP.elim t1
 replace L1:Amb S W b1:=.inl L1
 have k0:(x.sign == 0)=true:=by rw [p0];rfl
 have bel:Only z W W:=Only.refl _ _
 go_enter Tryz.func202,Tryz.ntmps202
 refine gs 1 (Amb S W) fun _ K2=>?_
 refine .mc rfl ?_
 refine .dg (fun u=>pt z::.pointer (some ⟨b1,ob1,none⟩)::U::U::u 0::us 33) K2 bel.size fun u1 w1 D=>?_
 have E1_0:=D.q 0
 replace B_z:=D.k B_z
 replace F1:=D.o L1 F1
 replace bel:=D.d.base.only0 bel
 clear D
 refine wp_seq_k fun _ K3=>?_
 refine gs 3 (Amb S W) fun _ K4=>?_
 refine .mz rfl 1 (V:=.pointer (some ⟨b1,ob1,none⟩)) rfl ?_
 refine .cK rfl Tryz.func167 (fun H=>⟨_,ar1 (H.g 7 0),bSign _ (VP.any _ (H.was _ [] (VP.at F1 L1)))⟩) ?_
 refine .e rfl (V:=.bool true) (fun H=>x_cm (H.g 8 1) (H.c _) k0) ?_
 refine .dg (fun u=>pt z::.pointer (some ⟨b1,ob1,none⟩)::U::U::u1 0::U::U::sq u 0 3 (us 28)) K4 bel.size fun u2 w2 D=>?_
 have E2_2:=D.q 2
 replace B_z:=D.k B_z
 replace F1:=D.o L1 F1
 replace bel:=D.d.base.only0 bel
 clear D
 refine wp_cond_true (by exact E2_2) ?_
 refine wp_seq_k fun _ K5=>?_
 refine go2_seqT 1 2 rfl (Amb S W) [] [] (Olds.nil _) (by kernel_rfl) ?_
 refine .mz rfl 0 (V:=pt z) rfl ?_
 refine .dT (fun u=>pt z::.pointer (some ⟨b1,ob1,none⟩)::U::U::u 2::U::U::sq u2 0 3 (u 0::u 1::us 26)) bel.size _ rfl fun u3 w3 D=>?_
 have E3_0:=D.q 0
 replace B_z:=D.k B_z
 replace bel:=D.d.base.only0 bel
 clear D
 refine wpT_callO (args:=#[pt z,.bool false,.slice none 0 0]) rfl (ex_call rfl rfl Tryz.func221 (by kernel_rfl) (by kernel_rfl) (by simp only [List.map_toArray,List.map_cons,List.map_nil];show #[(u3 0).v,.bool false,.slice none 0 0]=#[pt z,.bool false,.slice none 0 0];rw [E3_0])) (bIs (z:=z) (neg:=false) (n:=0) (IntBlk.of B_z) raw_nil ) fun w6 fw6 ow6=>?_
 have sw6:Soft w3 z∨Local w3 z:=.inl ⟨_,_,B_z,rfl⟩
 have F_z:=fw6
 replace bel:=bel.trans ow6
 refine wpT_val rfl (ex_assign rfl) ?_
 refine wpList_nil ?_
 show _
 refine K5 _ _ ?_
 refine wp_ret ?_
 refine ret_ok rfl (by exact results_tmp' rfl rfl) ⟨rfl,?_,bel⟩
 exact into_eq (isq_zero k0) F_z
theorem bSqrt{z:Nat}{v1:Value}(x:Int)(hz:IntBlk W z)(t1:(IntP x).p S v1 W)(p0:hi x≤68719476736)(p1:0≤x):Calls Tryz.prog 202 #[.pointer (some ⟨z,0,none⟩),v1] W (RetOwn z (IntO (isq x.natAbs:Int)) W):=by
 rcases Int.lt_or_eq_of_le p1 with h|h
 ·exact bSqrtP x hz t1 p0 h
 ·exact bSqrtZ x hz t1 h.symm
def rootQ(q:Rat):Rat:=Rat.divInt (isq q.num.natAbs:Int) (isq q.den:Int)
def isSq(q:Rat):Bool:=decide (rootQ q*rootQ q=q)
theorem isq_pos{n:Nat}(h:0<n):0<isq n:=le_isq (by omega)
theorem rootQ_den(q:Rat):(0:Int)<(isq q.den:Int):=by have:=isq_pos q.den_pos;omega
theorem isq_self_le(n:Nat):isq n≤n:=by
 have h:=isq_le n
 rcases Nat.eq_zero_or_pos (isq n) with e|e
 ·omega
 ·exact Nat.le_trans (Nat.le_mul_of_pos_left _ e) h
theorem ht_rootQ(q:Rat):ht (rootQ q)≤ht q+1:=by
 refine ht_dvI (rootQ_den q) ?_
 have h1:=bl_mono (isq_self_le q.num.natAbs)
 have h2:=bl_mono (isq_self_le q.den)
 unfold hi ht
 simp only [Int.natAbs_natCast];omega
theorem sq_parts(y:Rat):(y*y).num=y.num*y.num∧(y*y).den=y.den*y.den:=by
 have hc:(y.num*y.num).natAbs.Coprime (y.den*y.den):=by
  rw [Int.natAbs_mul]
  exact Nat.Coprime.mul_left (Nat.Coprime.mul_right y.reduced y.reduced) (Nat.Coprime.mul_right y.reduced y.reduced)
 have e:y*y=⟨y.num*y.num,y.den*y.den,Nat.mul_ne_zero y.den_nz y.den_nz,hc⟩:=by
  rw [Rat.mul_def,Rat.normalize_eq_mk' _ _ (Nat.mul_ne_zero y.den_nz y.den_nz) hc]
 rw [e];exact⟨rfl,rfl⟩
theorem sq_isq{q y:Rat}(h:y*y=q):isq q.num.natAbs=y.num.natAbs∧isq q.den=y.den:=by
 obtain⟨h1,h2⟩:=sq_parts y
 rw [← h,h1,h2,Int.natAbs_mul]
 exact⟨isq_sq _,isq_sq _⟩
theorem rootQ_sq{q:Rat}(h:isSq q=true):isq q.num.natAbs*isq q.num.natAbs=q.num.natAbs∧isq q.den*isq q.den=q.den:=by
 have h:=of_decide_eq_true h
 obtain⟨h1,h2⟩:=sq_isq h
 obtain⟨h3,h4⟩:=sq_parts (rootQ q)
 rw [h] at h3 h4
 rw [h1,h2,h4,h3,Int.natAbs_mul];exact⟨rfl,rfl⟩
theorem rootQ_num{q:Rat}(h:isSq q=true):(rootQ q).num=(isq q.num.natAbs:Int)∧((rootQ q).den:Int)=(isq q.den:Int):=by
 obtain⟨h1,h2⟩:=sq_isq (of_decide_eq_true h)
 have hn:0≤rootQ q:=by
  unfold rootQ;exact Rat.divInt_nonneg (by omega) (by omega)
 have:=Rat.num_nonneg.2 hn
 rw [h1,h2];exact⟨by omega,rfl⟩
theorem isSq_iff{q:Rat}(h0:0≤q):isSq q=(decide (isq q.num.natAbs*isq q.num.natAbs=q.num.natAbs)&&decide (isq q.den*isq q.den=q.den)):=by
 rcases Bool.eq_false_or_eq_true (isSq q) with h|h
 ·obtain⟨h1,h2⟩:=rootQ_sq h
  rw [h,decide_eq_true h1,decide_eq_true h2];rfl
 ·rw [h]
  apply Eq.symm
  rw [Bool.and_eq_false_iff]
  rcases Nat.decEq (isq q.num.natAbs*isq q.num.natAbs) q.num.natAbs with c|c
  ·exact .inl (decide_eq_false c)
  ·refine .inr (decide_eq_false fun e=>?_)
   have:rootQ q*rootQ q=q:=by
    unfold rootQ
    rw [Rat.divInt_mul_divInt,← Int.natCast_mul,← Int.natCast_mul,c,e]
    rw [Int.natAbs_of_nonneg (Rat.num_nonneg.2 h0)]
    exact Rat.num_divInt_den q
   exact absurd (decide_eq_true this) (by rw [show decide (rootQ q*rootQ q=q)=isSq q from rfl,h];decide)
theorem hi_isq(x:Int):hi (isq x.natAbs:Int)≤hi x:=by
 unfold hi;simp only [Int.natAbs_natCast];have:=bl_mono (isq_self_le x.natAbs);omega
theorem sign_nn{q:Rat}(h:0≤q):decide (q.num.sign<0)=false:=by
 have:=Rat.num_nonneg.2 h
 rcases sign3 q.num with⟨c,_⟩|⟨_,c⟩|⟨_,c⟩<;>(first|omega|(rw [c];rfl))
theorem root_b(q:Rat):(icmp ((rootQ q*rootQ q).num*(q.den:Int)) (q.num*((rootQ q*rootQ q).den:Int)) == 0)=isSq q:=icmp_b _ _
theorem eRoot{v0:Value}(q:Rat)(t0:(RatP q).p S v0 W)(p0:ht q≤8589934592)(p1:0≤q):Calls Tryz.prog 125 #[v0] W (Ret (VP.tup (RatP (rootQ q)) (VP.is (.bool (isSq q)))) Z0 W):=by
 obtain⟨b1,rfl,L1,F1⟩:=RatP.elim t0
 replace L1:Amb S W b1:=.inl L1
 have n0:=hi_num q
 have n1:=hi_den q
 have n2:=hi_isq q.num
 have n3:=hi_isq (q.den:Int)
 have n4:=Rat.num_nonneg.2 p1
 have n5:=rootQ_den q
 have n6:=ht_rootQ q
 have n7:=ht_mul (rootQ q) (rootQ q)
 have bel:=b0 W
 go_enter Tryz.func125,Tryz.ntmps125
 refine gs 2 (Amb S W) fun _ K2=>?_
 refine .mc rfl ?_
 refine .mc rfl ?_
 refine .dk (fun u=>pt b1::U::u 0::u 1::us 25) K2 bel fun u1 w1 D bel=>?_
 have E1_0:=D.q 0
 have E1_1:=D.q 1
 replace F1:=D.o L1 F1
 clear D
 refine wp_seq_k fun _ K3=>?_
 refine gs 3 (Amb S W) fun _ K4=>?_
 refine .mz rfl 0 (V:=pt b1) rfl ?_
 refine .cK rfl Tryz.func72 (fun H=>⟨_,ar1 (H.g 7 0),qSign _ (VP.any _ (H.was _ [] (VP.at F1 L1)))⟩) ?_
 refine .e rfl (V:=.bool false) (fun H=>x_cm (H.g 8 1) (H.c _) (sign_nn p1)) ?_
 refine .dk (fun u=>pt b1::U::u1 0::u1 1::U::U::U::sq u 0 3 (us 19)) K4 bel fun u2 w2 D bel=>?_
 have E2_2:=D.q 2
 replace F1:=D.o L1 F1
 clear D
 refine wp_cond_false (by exact E2_2) ?_
 refine wp_skip ?_
 refine K3 _ _ ?_
 refine gs 10 (Amb S W) fun _ K5=>?_
 refine .al rfl zI ?_
 refine .mz rfl 0 (V:=pt b1) rfl ?_
 refine .cR rfl [] Tryz.func198 (fun H=>⟨_,ar1 (H.g 11 1),qNum _ (H.was _ [] (VP.at F1 L1)) (by first|omega|exact Int.ne_of_gt n5|(show ht (rootQ q)+ht (rootQ q)≤_;omega)|(show ht (rootQ q*rootQ q)+ht q≤_;omega))⟩) ?_
 refine .cO rfl 0 Tryz.func202 (fun H h0 hz=>⟨_,ar2 (H.p 10 0 h0) (H.r 12 2),bSqrt (x:=_) (IntBlk.of hz) (IntO.p (SV.any (H.a 2 rfl))) (by first|omega|exact Int.ne_of_gt n5|(show ht (rootQ q)+ht (rootQ q)≤_;omega)|(show ht (rootQ q*rootQ q)+ht q≤_;omega)) (by first|omega|exact Int.ne_of_gt n5|(show ht (rootQ q)+ht (rootQ q)≤_;omega)|(show ht (rootQ q*rootQ q)+ht q≤_;omega))⟩) ?_
 refine .al rfl zI ?_
 refine .mz rfl 0 (V:=pt b1) rfl ?_
 refine .cR rfl [] Tryz.func199 (fun H=>⟨_,ar1 (H.g 15 5),qDenom _ (H.was _ [] (VP.at F1 L1)) (by first|omega|exact Int.ne_of_gt n5|(show ht (rootQ q)+ht (rootQ q)≤_;omega)|(show ht (rootQ q*rootQ q)+ht q≤_;omega))⟩) ?_
 refine .cO rfl 4 Tryz.func202 (fun H h0 hz=>⟨_,ar2 (H.p 14 4 h0) (H.r 16 6),bSqrt (x:=_) (IntBlk.of hz) (IntO.p (SV.any (H.a 6 rfl))) (by first|omega|exact Int.ne_of_gt n5|(show ht (rootQ q)+ht (rootQ q)≤_;omega)|(show ht (rootQ q*rootQ q)+ht q≤_;omega)) (by first|omega|exact Int.ne_of_gt n5|(show ht (rootQ q)+ht (rootQ q)≤_;omega)|(show ht (rootQ q*rootQ q)+ht q≤_;omega))⟩) ?_
 refine .mo rfl 3 ?_
 refine .mo rfl 7 ?_
 refine .dk (fun u=>pt b1::U::u1 0::u1 1::u 8::u 9::U::sq u2 0 3 (sq u 0 8 (us 11))) K5 bel fun u3 w3 D bel=>?_
 obtain⟨b6,E3_8,A6,F6⟩:=D.ow 8
 obtain⟨b7,E3_9,A7,F7⟩:=D.ow 9
 replace F1:=D.o L1 F1
 have L6:Amb S W b6:=.inr A6
 have L7:Amb S W b7:=.inr A7
 clear D
 refine gs 5 (Amb S W) fun _ K8=>?_
 refine .al rfl zQ ?_
 refine .mz rfl 4 E3_8 ?_
 refine .mz rfl 5 E3_9 ?_
 refine .cO rfl 0 Tryz.func197 (fun H h0 hz=>⟨_,ar3 (H.p 18 0 h0) (H.g 19 1) (H.g 20 2),qSetFrac _ _ (RatBlk.of hz) (IntO.p (VP.any _ (H.was _ [] (VP.at F6 L6)))) (IntO.p (VP.any _ (H.was _ [] (VP.at F7 L7)))) (by first|omega|exact Int.ne_of_gt n5|(show ht (rootQ q)+ht (rootQ q)≤_;omega)|(show ht (rootQ q*rootQ q)+ht q≤_;omega)) (by first|omega|exact Int.ne_of_gt n5|(show ht (rootQ q)+ht (rootQ q)≤_;omega)|(show ht (rootQ q*rootQ q)+ht q≤_;omega))⟩) ?_
 refine .mo rfl 3 ?_
 refine .dk (fun u=>pt b1::U::u1 0::u1 1::u3 8::u3 9::u 4::sq u2 0 3 (sq u3 0 8 (sq u 0 4 (us 7)))) K8 bel fun u4 w4 D bel=>?_
 obtain⟨b9,E4_4,A9,F9⟩:=D.ow 4
 replace F1:=D.o L1 F1
 have L9:Amb S W b9:=.inr A9
 clear D
 refine gs 9 (Amb S W) fun _ K10=>?_
 refine .mz rfl 6 E4_4 ?_
 refine .mz rfl 6 E4_4 ?_
 refine .mz rfl 6 E4_4 ?_
 refine .cR rfl [] Tryz.func172 (fun H=>⟨_,ar2 (H.g 23 1) (H.g 24 2),eMul _ _ (RatP.n (H.was _ [] (VP.at F9 L9))) (RatP.n (H.was _ [] (VP.at F9 L9))) (by first|omega|exact Int.ne_of_gt n5|(show ht (rootQ q)+ht (rootQ q)≤_;omega)|(show ht (rootQ q*rootQ q)+ht q≤_;omega))⟩) ?_
 refine .mz rfl 0 (V:=pt b1) rfl ?_
 refine .cK rfl Tryz.func73 (fun H=>⟨_,ar2 (H.r 25 3) (H.g 26 4),qCmp _ _ (SV.any (H.a 3 rfl)) (VP.any _ (H.was _ [] (VP.at F1 L1))) (by first|omega|exact Int.ne_of_gt n5|(show ht (rootQ q)+ht (rootQ q)≤_;omega)|(show ht (rootQ q*rootQ q)+ht q≤_;omega))⟩) ?_
 refine .e rfl (V:=.bool ((icmp (((Rat.divInt (isq q.num.natAbs:Int) (isq (q.den:Int).natAbs:Int))*(Rat.divInt (isq q.num.natAbs:Int) (isq (q.den:Int).natAbs:Int))).num*(q.den:Int)) (q.num*(((Rat.divInt (isq q.num.natAbs:Int) (isq (q.den:Int).natAbs:Int))*(Rat.divInt (isq q.num.natAbs:Int) (isq (q.den:Int).natAbs:Int))).den:Int))) == 0)) (fun H=>x_cmp (H.g 27 5) (H.c _)) ?_
 refine .mv rfl 0 ?_
 refine .mv rfl 6 ?_
 refine .dk (fun u=>pt b1::U::u 7::u 8::u3 8::u3 9::u4 4::sq u2 0 3 (sq u3 0 8 (sq u4 0 4 (sq u 0 7 [])))) K10 bel fun u5 w5 D bel=>?_
 have E5_7:=D.q 7
 have E5_8:=D.q 8
 replace F9:=D.o L9 F9
 clear D
 refine wp_ret ?_
 refine ret_ok rfl (by exact results_two rfl (by exact E5_7) (by exact E5_8)) ⟨_,rfl,?_,bel⟩
 exact⟨_,_,rfl,(VP.at F9 (Or.inr A9)),(congrArg Value.bool (root_b q))⟩
end Go.Proofs.YtcboejgklgnifaaGreat
namespace Go.Proofs.YtcboejgklgnifaaGreat
open Go.RowKit Rgn
section
variable {S:Nat→Prop} {W:World}
theorem gUp{v0:Value}(a:Nat)(n:Int)(t0:(MagP a).p S v0 W)(p0:bl a≤1099511627776)(p1:0≤n)(p2:n≤274877906944):Calls Tryz.prog 244 #[v0,.int .i64 n] W (Ret (MagP (a*2^n.toNat)) S W):=by
 obtain⟨l,h1,h2,h3,h4⟩:=Mag.words t0 p0
 subst h3
 obtain⟨k,rfl⟩:=Int.eq_ofNat_of_zero_le p1
 exact (refup_all v0 l k W h1 (by omega) (by omega)).mono fun e w' h=>Ret.mag h
theorem gBits{v0:Value}(a:Nat)(t0:(MagP a).p S v0 W)(p0:bl a≤1099511627776):Calls Tryz.prog 243 #[v0] W (RetV (.int .i64 (bl a:Nat)) W):=by
 obtain⟨l,h1,h2,h3,h4⟩:=Mag.words t0 p0
 subst h3
 clear t0 p0
 cases hk:l.length with
 | zero =>
  have e:l=[]:=List.length_eq_zero_iff.1 hk
  subst e
  obtain⟨a,c,rfl,hc1,hc2⟩:=h1.len
  go_enter Tryz.func243,Tryz.ntmps243
  go_wp2_with fail
  exact ret_ok rfl (by exact results_tmp' rfl rfl) (RetV.mk rfl (Below.refl _ _))
 | succ N =>
  obtain⟨g1,g2,g3⟩:=top_bl h1.bd h2 hk
  have e:blen (l.getD N 0)=bl (l.getD N 0):=rfl
  exact (refbits_any v0 l W h1 hk (by omega)).mono fun e' w' ⟨h5,h6⟩=>RetV.mk (by rw [h5,e];congr 2;omega) (by subst h6;exact Below.refl _ _)
end
section
variable {ops:Array Oper} {a0:Act} {w0:World} {R0:Nat→Prop} {olds:List (Nat×Nat)} {F:List (Pl w0.heap.size R0 olds)→Prop} {k i:Nat} {rp:List (Nat×Pl w0.heap.size R0 olds)} {o:Oper}
theorem mag_one(w:World):Mag (w.alloc (.cells #[.int .u32 1] 280)) (.slice (some ⟨w.heap.size,0,none⟩) 1 1) 1:=by
 have h:=(Blk.alloc w [1]).all (cap:=1) (by intro x hx;simp at hx;subst hx;decide) (by decide) (by decide)
 refine⟨[1],by exact h,by simp [Canon],by simp [val]⟩
theorem Rgn.Go2.m1(ho:ops[i]? = some o)(rest:Go2 Tryz.prog ops a0 w0 F k (i+1) ((i,.op none (.val i [] (MagP 1)))::rp))(hop:o.op=.buildSlice 189 1 #[(0,.const (.int .u32 1))]:=by rfl)(hg:Gd2 ops a0 w0 rp i o:=by exact G0 rfl):Go2 Tryz.prog ops a0 w0 F (k+1) i rp :=
 Go2.gR ho [] hg rfl (fun {u w ρ} H=>by
  exact⟨_,_,ex_bs (P:=Tryz.prog) (e:=280) (sz:=1) [.int .u32 1] hop (by simp [H.c]) (by intro v hv;simp at hv;subst hv;rfl) rfl (by kernel_rfl) (by kernel_rfl) (by decide) (by decide) (by decide),mag_one w,RowKit.Below.alloc (RowKit.Below.refl _ _) (Nat.le_refl _) _⟩) rest
end
theorem mag_nil{S:Nat→Prop}{w:World}:(MagP 0).p S (.slice none 0 0) w:=⟨[],.inl ⟨rfl,rfl⟩,by simp [Canon],rfl⟩
def RtI(n r:Nat)(i:Int):Prop:=r=isq n/2^(i+1).toNat*2^(i+1).toNat
theorem isq_lt(n:Nat):isq n<2^(bl n/2+1):=by
 have h3:=isq_le n
 have h4:=bl_le.1 (Nat.le_refl (bl n))
 have h5:2^(bl n)≤2^(bl n/2+1)*2^(bl n/2+1):=by
  rw [← Nat.pow_add];exact Nat.pow_le_pow_right (by decide) (by omega)
 generalize 2^(bl n/2+1)=p at *
 rcases Nat.lt_or_ge (isq n) p with c|c
 ·exact c
 ·have:=Nat.mul_le_mul c c;omega
theorem rt_start(n:Nat):RtI n 0 (((bl n:Nat):Int)/2):=by
 unfold RtI
 have e:((((bl n:Nat):Int)/2)+1).toNat=bl n/2+1:=by omega
 rw [e,Nat.div_eq_of_lt (isq_lt n),Nat.zero_mul]
theorem rt_le{n r:Nat}{i:Int}(h:RtI n r i):r≤isq n:=by
 rw [h];exact Nat.div_mul_le_self _ _
theorem rt_r{n r:Nat}{i:Int}(h:RtI n r i):bl r≤bl n:=bl_mono (Nat.le_trans (rt_le h) (isq_self_le n))
theorem rt_x{n r:Nat}{i:Int}(h:RtI n r i)(h1:0≤i)(h2:i≤((bl n:Nat):Int)/2):bl (r+1*2^i.toNat)≤bl n+2∧bl (1*2^i.toNat)≤bl n+2:=by
 have h3:=rt_r h
 have h4:bl (1*2^i.toNat)≤bl n+1:=by
  rw [Nat.one_mul];exact bl_le.2 (Nat.pow_lt_pow_right (by decide) (by omega))
 have h5:=bl_add r (1*2^i.toNat)
 exact⟨by omega,by omega⟩
theorem rt_split(n:Nat){r:Nat}{i:Int}(h:RtI n r i)(h1:0≤i):isq n/2^i.toNat*2^i.toNat=r∨isq n/2^i.toNat*2^i.toNat=r+1*2^i.toNat:=by
 have e:(i+1).toNat=i.toNat+1:=by omega
 unfold RtI at h
 rw [e,Nat.pow_succ,← Nat.div_div_eq_div_mul] at h
 generalize isq n/2^i.toNat=q at *
 generalize 2^i.toNat=p at *
 have hq:=Nat.mod_add_div q 2
 have hm:=Nat.mod_lt q (show 2>0 by decide)
 generalize q/2=d at *
 have h2:r=2*d*p:=by rw [h];ac_rfl
 rcases (by omega:q=2*d∨q=2*d+1) with c|c
 ·left;rw [c,h2]
 ·right;rw [c,h2,Nat.add_mul]
theorem rt_step1{n r:Nat}{i:Int}(h:RtI n r i)(h1:0≤i)(h2:cmp3 ((r+1*2^i.toNat)*(r+1*2^i.toNat)) n≤0):RtI n (r+1*2^i.toNat) (i-1):=by
 have h3:(r+1*2^i.toNat)*(r+1*2^i.toNat)≤n:=by
  unfold cmp3 at h2;split at h2<;>(try split at h2)<;>omega
 have h4:=le_isq h3
 have e:(i-1+1).toNat=i.toNat:=by omega
 unfold RtI
 rw [e]
 rcases rt_split n h h1 with c|c
 ·have h5:isq n<isq n/2^i.toNat*2^i.toNat+2^i.toNat:=by
   have:=Nat.div_add_mod (isq n) (2^i.toNat)
   have h6:=Nat.mod_lt (isq n) (Nat.pow_pos (a:=2) (n:=i.toNat) (by decide))
   rw [Nat.mul_comm] at this;omega
  omega
 ·exact c.symm
theorem rt_step0{n r:Nat}{i:Int}(h:RtI n r i)(h1:0≤i)(h2:¬ cmp3 ((r+1*2^i.toNat)*(r+1*2^i.toNat)) n≤0):RtI n r (i-1):=by
 have h3:n<(r+1*2^i.toNat)*(r+1*2^i.toNat):=by
  unfold cmp3 at h2;split at h2<;>(try split at h2)<;>omega
 have e:(i-1+1).toNat=i.toNat:=by omega
 unfold RtI
 rw [e]
 rcases rt_split n h h1 with c|c
 ·exact c.symm
 ·exfalso
  have h4:r+1*2^i.toNat≤isq n:=by rw [← c];exact Nat.div_mul_le_self _ _
  have:=Nat.mul_le_mul h4 h4
  have:=isq_le n
  omega
theorem rt_end{n r:Nat}{i:Int}(h:RtI n r i)(h0:-1≤i)(h1:¬ 0≤i):r=isq n:=by
 have e:(i+1).toNat=0:=by omega
 unfold RtI at h
 rw [e] at h
 simpa using h
theorem rt_sq{n r:Nat}{i:Int}(h:RtI n r i):r*r≤n:=Nat.le_trans (Nat.mul_le_mul (rt_le h) (rt_le h)) (isq_le n)
end Go.Proofs.YtcboejgklgnifaaGreat
namespace Go.Proofs.YtcboejgklgnifaaGreat
open Go.RowKit Rgn
variable {S:Nat→Prop} {W:World}
theorem rRoot(x:Int)(p0:bl x.natAbs≤68719476736):Calls Tryz.prog 210 #[wV x] W (RetV (.tuple #[wV (isq x.natAbs:Int),wV ((x.natAbs-isq x.natAbs*isq x.natAbs:Nat):Int)]) W):=by
 have bel:=b0 W
 go_enter Tryz.func210,Tryz.ntmps210
 refine gs 3 (Amb Z0 W) fun _ K1=>?_
 refine .bx rfl (fun H=>H.v 0 (wV x)) ?_
 refine .al rfl zW ?_
 refine .al rfl zW ?_
 refine .dk (fun u=>wV x::sq u 0 3 (us 34)) K1 bel fun u1 w1 D bel=>?_
 obtain⟨b2,E1_0,A2,B2⟩:=D.nw 0
 obtain⟨b3,E1_1,A3,B3⟩:=D.nw 1
 obtain⟨b4,E1_2,A4,B4⟩:=D.nw 2
 have N2_3:=D.n2 0 1 E1_0 E1_1
 have N2_4:=D.n2 0 2 E1_0 E1_2
 have N3_4:=D.n2 1 2 E1_1 E1_2
 clear D
 refine gs 4 (Amb Z0 W) fun _ K5=>?_
 refine .fz rfl 1 1 E1_0 ?_
 refine .lc rfl 0 B2 ?_ (V:=.string (bS x.natAbs))
 refine .cR rfl [] Tryz.func225 (fun H=>⟨_,ar1 (H.g 9 1),gWords _ (by first|omega|(have h_:=rt_r i2;omega)|(have h_:=rt_x i2 dx_x i1;omega)|exact rt_sq i2|(have h_:=bl_mul r r;have h2_:=rt_r i2;omega)|(have h_:=bl_mono (Nat.sub_le x.natAbs (r*r));omega)|decide)⟩) ?_
 refine .mn rfl 2 [2] ?_
 refine .dk (fun u=>wV x::sq u1 0 3 (u 3::U::U::U::sq u 0 3 (us 27))) K5 bel fun u2 w2 D bel=>?_
 obtain⟨x6,E2_3,F_x6⟩:∃ x_,(u2 3).v=x_∧(MagP x.natAbs).p (Amb Z0 W) x_ w2:=⟨_,rfl,D.rr 3⟩
 replace B3:=D.k B3
 replace B4:=D.k B4
 clear D
 refine gs 1 (Amb Z0 W) fun _ K7=>?_
 refine .mc rfl ?_
 refine .dk (fun u=>wV x::sq u1 0 3 (u2 3::u 0::U::U::sq u2 0 3 (us 27))) K7 bel fun u3 w3 D bel=>?_
 have E3_0:=D.q 0
 replace B3:=D.k B3
 replace B4:=D.k B4
 replace F_x6:=D.gr (MagP x.natAbs) F_x6
 clear D
 refine wp_seq_k fun _ K8=>?_
 refine gs 4 (Amb Z0 W) fun _ K9=>?_
 refine .mz rfl 4 E2_3 ?_
 refine .cK rfl Tryz.func243 (fun H=>⟨_,ar1 (H.g 11 0),gBits _ (VP.any _ (H.was _ [] F_x6)) (by first|omega|(have h_:=rt_r i2;omega)|(have h_:=rt_x i2 dx_x i1;omega)|exact rt_sq i2|(have h_:=bl_mul r r;have h2_:=rt_r i2;omega)|(have h_:=bl_mono (Nat.sub_le x.natAbs (r*r));omega)|decide)⟩) ?_
 refine .e rfl (V:=.int .i64 (((bl x.natAbs:Nat):Int)/2)) (fun H=>by have e12:=H.g 12 1;have k1:=H.c (.int .i64 2);have a0_:0≤((bl x.natAbs:Nat):Int):=(by omega);have aw_:IntKind.wrap .i64 (((bl x.natAbs:Nat):Int)/2)=((bl x.natAbs:Nat):Int)/2:=IntWalk.i64_in _ (by omega);clear H;go_simp) ?_
 refine .mv rfl 2 ?_
 refine .dk (fun u=>wV x::sq u1 0 3 (u2 3::u3 0::u 3::U::sq u2 0 3 (sq u 0 3 (us 24)))) K9 bel fun u4 w4 D bel=>?_
 have E4_3:=D.q 3
 replace B3:=D.k B3
 replace B4:=D.k B4
 replace F_x6:=D.gr (MagP x.natAbs) F_x6
 clear D
 refine wp_block ?_
 refine wp_loop_ghost_k (fun n_ a_ w_=>∃ s5:Value,∃ s6:Value,∃ d7:Value,∃ d14:Value,∃ d15:Value,∃ d16:Value,∃ d17:Value,∃ d18:Value,∃ d19:Value,∃ d20:Value,∃ d21:Value,∃ d22:Value,∃ d23:Value,∃ d24:Value,∃ d25:Value,∃ d26:Value,∃ d27:Value,∃ d28:Value,∃ d29:Value,∃ r:Nat,∃ j:Int,a_=fr (wV x::sq u1 0 3 (u2 3::s5::s6::d7::sq u2 0 3 (sq u4 0 3 (d14::d15::d16::d17::d18::d19::d20::d21::d22::d23::d24::d25::d26::d27::d28::d29::us 8))))∧n_=(j+1).toNat∧-1≤j∧j≤((bl x.natAbs:Nat):Int)/2∧RtI x.natAbs r j∧(MagP r).p (Amb Z0 W) s5 w_∧s6=.int .i64 j∧w_.heap[b3]? = some (.cells #[.bool false,.string ⟨#[]⟩] 23 (0,0))∧w_.heap[b4]? = some (.cells #[.bool false,.string ⟨#[]⟩] 23 (0,0))∧(MagP x.natAbs).p (Amb Z0 W) x6 w_∧RowKit.Below W.heap.size W w_) (((((bl x.natAbs:Nat):Int)/2)+1).toNat) ⟨_,_,_,_,_,_,_,_,_,_,_,_,_,_,_,_,_,_,_,0,((bl x.natAbs:Nat):Int)/2,rfl,rfl,by first|omega|exact rt_start _,by first|omega|exact rt_start _,by first|omega|exact rt_start _,(by rw [E3_0];exact mag_nil),(by exact E4_3),B3,B4,F_x6,bel⟩ ?_
 clear B3 B4 F_x6 bel
 rintro n_ _ w10 ⟨s5,s6,d7,d14,d15,d16,d17,d18,d19,d20,d21,d22,d23,d24,d25,d26,d27,d28,d29,r,j,rfl,hn13,i0,i1,i2,f5,rfl,B3,B4,F_x6,bel⟩ J11 K12 hJ11 hK12
 have F_s5:=f5
 clear f5
 refine wp_seq_k fun _ K14=>?_
 refine gs 2 (Amb Z0 W) fun _ K15=>?_
 refine .mz rfl 6 (V:=.int .i64 j) rfl ?_
 refine .e rfl (V:=.bool (decide (0≤j))) (fun H=>x_cmp (H.g 14 0) (H.c _)) ?_
 refine .dk (fun u=>wV x::sq u1 0 3 (u2 3::s5::.int .i64 j::d7::sq u2 0 3 (sq u4 0 3 (u 0::u 1::d16::d17::d18::d19::d20::d21::d22::d23::d24::d25::d26::d27::d28::d29::us 8)))) K15 bel fun u5 w5 D bel=>?_
 have E5_1:=D.q 1
 replace B3:=D.k B3
 replace B4:=D.k B4
 replace F_x6:=D.gr (MagP x.natAbs) F_x6
 replace F_s5:=D.gr (MagP r) F_s5
 clear D
 rcases Bool.eq_false_or_eq_true (decide (0≤j)) with c16|c16
 ·
  refine wp_cond_true ((E5_1).trans (congrArg Value.bool c16)) ?_
  have dc16:=of_decide_eq_true c16
  refine wp_skip ?_
  refine K14 _ _ ?_
  refine wp_seq_k fun _ K17=>?_
  refine wp_block ?_
  refine gs 6 (Amb Z0 W) fun _ K18=>?_
  refine .mz rfl 5 (V:=s5) rfl ?_
  refine .m1 rfl ?_
  refine .mz rfl 6 (V:=.int .i64 j) rfl ?_
  refine .cR rfl [1] Tryz.func244 (fun H=>⟨_,ar2 (H.r 19 1) (H.g 20 2),gUp _ _ (SV.sub [1] (H.a 1 rfl) rfl) (by first|omega|(have h_:=rt_r i2;omega)|(have h_:=rt_x i2 dc16 i1;omega)|exact rt_sq i2|(have h_:=bl_mul r r;have h2_:=rt_r i2;omega)|(have h_:=bl_mono (Nat.sub_le x.natAbs (r*r));omega)|decide) (by first|omega|(have h_:=rt_r i2;omega)|(have h_:=rt_x i2 dc16 i1;omega)|exact rt_sq i2|(have h_:=bl_mul r r;have h2_:=rt_r i2;omega)|(have h_:=bl_mono (Nat.sub_le x.natAbs (r*r));omega)|decide) (by first|omega|(have h_:=rt_r i2;omega)|(have h_:=rt_x i2 dc16 i1;omega)|exact rt_sq i2|(have h_:=bl_mul r r;have h2_:=rt_r i2;omega)|(have h_:=bl_mono (Nat.sub_le x.natAbs (r*r));omega)|decide)⟩) ?_
  refine .cR rfl [1,3] Tryz.func227 (fun H=>⟨_,ar2 (H.g 18 0) (H.r 21 3),gMore _ _ (H.was _ [1,3] F_s5) (SV.sub [1,3] (H.a 3 rfl) rfl) (by first|omega|(have h_:=rt_r i2;omega)|(have h_:=rt_x i2 dc16 i1;omega)|exact rt_sq i2|(have h_:=bl_mul r r;have h2_:=rt_r i2;omega)|(have h_:=bl_mono (Nat.sub_le x.natAbs (r*r));omega)|decide) (by first|omega|(have h_:=rt_r i2;omega)|(have h_:=rt_x i2 dc16 i1;omega)|exact rt_sq i2|(have h_:=bl_mul r r;have h2_:=rt_r i2;omega)|(have h_:=bl_mono (Nat.sub_le x.natAbs (r*r));omega)|decide)⟩) ?_
  refine .mn rfl 4 [1,3,4] ?_
  refine .dk (fun u=>wV x::sq u1 0 3 (u2 3::s5::.int .i64 j::u 5::sq u2 0 3 (sq u4 0 3 (u5 0::u5 1::d16::d17::sq u 0 5 (d23::d24::d25::d26::d27::d28::d29::us 8))))) K18 bel fun u6 w6 D bel=>?_
  obtain⟨x19,E6_5,F_x19⟩:∃ x_,(u6 5).v=x_∧(MagP (r+(1*2^j.toNat))).p (Amb Z0 W) x_ w6:=⟨_,rfl,D.rr 5⟩
  replace B3:=D.k B3
  replace B4:=D.k B4
  replace F_x6:=D.gr (MagP x.natAbs) F_x6
  replace F_s5:=D.gr (MagP r) F_s5
  clear D
  refine gs 6 (Amb Z0 W) fun _ K20=>?_
  refine .mz rfl 7 E6_5 ?_
  refine .mz rfl 7 E6_5 ?_
  refine .cR rfl [] Tryz.func224 (fun H=>⟨_,ar2 (H.g 23 0) (H.g 24 1),gProduct _ _ (H.was _ [] F_x19) (H.was _ [] F_x19) (by first|omega|(have h_:=rt_r i2;omega)|(have h_:=rt_x i2 dc16 i1;omega)|exact rt_sq i2|(have h_:=bl_mul r r;have h2_:=rt_r i2;omega)|(have h_:=bl_mono (Nat.sub_le x.natAbs (r*r));omega)|decide) (by first|omega|(have h_:=rt_r i2;omega)|(have h_:=rt_x i2 dc16 i1;omega)|exact rt_sq i2|(have h_:=bl_mul r r;have h2_:=rt_r i2;omega)|(have h_:=bl_mono (Nat.sub_le x.natAbs (r*r));omega)|decide)⟩) ?_
  refine .mz rfl 4 E2_3 ?_
  refine .cK rfl Tryz.func228 (fun H=>⟨_,ar2 (H.r 25 2) (H.g 26 3),gUnder _ _ (SV.any (H.a 2 rfl)) (VP.any _ (H.was _ [] F_x6))⟩) ?_
  refine .e rfl (V:=.bool (decide ((cmp3 ((r+(1*2^j.toNat))*(r+(1*2^j.toNat))) x.natAbs)≤0))) (fun H=>x_cmp (H.g 27 4) (H.c _)) ?_
  refine .dk (fun u=>wV x::sq u1 0 3 (u2 3::s5::.int .i64 j::u6 5::sq u2 0 3 (sq u4 0 3 (u5 0::u5 1::d16::d17::sq u6 0 5 (sq u 0 6 (d29::us 8)))))) K20 bel fun u7 w7 D bel=>?_
  have E7_5:=D.q 5
  replace B3:=D.k B3
  replace B4:=D.k B4
  replace F_x6:=D.gr (MagP x.natAbs) F_x6
  replace F_s5:=D.gr (MagP r) F_s5
  replace F_x19:=D.gr (MagP (r+(1*2^j.toNat))) F_x19
  clear D
  rcases Bool.eq_false_or_eq_true (decide ((cmp3 ((r+(1*2^j.toNat))*(r+(1*2^j.toNat))) x.natAbs)≤0)) with c21|c21
  ·
   refine wp_cond_true ((E7_5).trans (congrArg Value.bool c21)) ?_
   have dc21:=of_decide_eq_true c21
   refine go2_seq 2 rfl (Amb Z0 W) [] [] (Olds.nil _) (by kernel_rfl) ?_
   refine .mz rfl 7 E6_5 ?_
   refine .mv rfl 0 ?_
   refine .dd (fun u=>⟨List.toArray (wV x::sq u1 0 3 (u2 3::u 1::.int .i64 j::u6 5::sq u2 0 3 (sq u4 0 3 (u5 0::u5 1::d16::d17::sq u6 0 5 (sq u7 0 6 (u 0::us 8)))))),[]⟩) bel.size fun u8 w8 D=>?_
   have E8_1:=D.q 1
   replace B3:=D.k B3
   replace B4:=D.k B4
   replace F_x6:=D.gr (MagP x.natAbs) F_x6
   replace F_x19:=D.gr (MagP (r+(1*2^j.toNat))) F_x19
   replace bel:=D.d.base.bel0 bel bel.size
   clear D
   refine inBlock_normal ?_
   refine K17 _ _ ?_
   refine wp_region_list ?_
   refine wpT_val rfl (ex_move rfl) ?_
   refine wpT_val (v:=.int .i64 (j-1)) rfl (by have aw_:IntKind.wrap .i64 (j-1)=j-1:=IntWalk.i64_in _ (by omega);go_simp) ?_
   refine wpT_val rfl (ex_assign rfl) ?_
   refine wpList_nil ?_
   show _
   refine hK12 _ _ (Handed.intro (((j-1)+1).toNat) (by rw [hn13];omega) (hJ11 _ _ _ ⟨_,_,_,_,_,_,_,_,_,_,_,_,_,_,_,_,_,_,_,r+(1*2^j.toNat),j-1,rfl,rfl,by first|omega|exact rt_step1 i2 dc16 dc21|exact rt_step0 i2 dc16 dc21,by first|omega|exact rt_step1 i2 dc16 dc21|exact rt_step0 i2 dc16 dc21,by first|omega|exact rt_step1 i2 dc16 dc21|exact rt_step0 i2 dc16 dc21,(by rw [E8_1];exact F_x19),rfl,B3,B4,F_x6,bel⟩))
  ·
   refine wp_cond_false ((E7_5).trans (congrArg Value.bool c21)) ?_
   have dc21:=of_decide_eq_false c21
   refine wp_skip ?_
   refine inBlock_normal ?_
   refine K17 _ _ ?_
   refine wp_region_list ?_
   refine wpT_val rfl (ex_move rfl) ?_
   refine wpT_val (v:=.int .i64 (j-1)) rfl (by have aw_:IntKind.wrap .i64 (j-1)=j-1:=IntWalk.i64_in _ (by omega);go_simp) ?_
   refine wpT_val rfl (ex_assign rfl) ?_
   refine wpList_nil ?_
   show _
   refine hK12 _ _ (Handed.intro (((j-1)+1).toNat) (by rw [hn13];omega) (hJ11 _ _ _ ⟨_,_,_,_,_,_,_,_,_,_,_,_,_,_,_,_,_,_,_,r,j-1,rfl,rfl,by first|omega|exact rt_step1 i2 dc16 dc21|exact rt_step0 i2 dc16 dc21,by first|omega|exact rt_step1 i2 dc16 dc21|exact rt_step0 i2 dc16 dc21,by first|omega|exact rt_step1 i2 dc16 dc21|exact rt_step0 i2 dc16 dc21,F_s5,rfl,B3,B4,F_x6,bel⟩))
 ·
  refine wp_cond_false ((E5_1).trans (congrArg Value.bool c16)) ?_
  have dc16:=of_decide_eq_false c16
  refine wp_exit ?_
  refine then_exit ?_
  refine then_exit ?_
  refine inBlock_here ?_
  refine K8 _ _ ?_
  refine wp_seq_k fun _ K22=>?_
  refine go2_seq 10 rfl (Amb Z0 W) [(b3,8),(b4,9)] [8,9] (Olds.cons (R0:=fun _=>True) (lt_of B3) (by simp [(Ne.symm N3_4)]) (Olds.one (lt_of B4))) (by kernel_rfl) ?_
  refine .mz rfl 5 (V:=s5) rfl ?_
  refine .cK rfl Tryz.func220 (fun H=>⟨_,ar2 (H.c (.bool false)) (H.g 30 0),gMadeZ _ _ (VP.any _ (H.was _ [] F_s5)) (by first|omega|(have h_:=rt_r i2;omega)|(have h_:=rt_x i2 dc16 i1;omega)|exact rt_sq i2|(have h_:=bl_mul r r;have h2_:=rt_r i2;omega)|(have h_:=bl_mono (Nat.sub_le x.natAbs (r*r));omega)|decide)⟩) ?_
  refine .mz rfl 4 E2_3 ?_
  refine .mz rfl 5 (V:=s5) rfl ?_
  refine .mz rfl 5 (V:=s5) rfl ?_
  refine .cR rfl [] Tryz.func224 (fun H=>⟨_,ar2 (H.g 33 3) (H.g 34 4),gProduct _ _ (H.was _ [] F_s5) (H.was _ [] F_s5) (by first|omega|(have h_:=rt_r i2;omega)|(have h_:=rt_x i2 dc16 i1;omega)|exact rt_sq i2|(have h_:=bl_mul r r;have h2_:=rt_r i2;omega)|(have h_:=bl_mono (Nat.sub_le x.natAbs (r*r));omega)|decide) (by first|omega|(have h_:=rt_r i2;omega)|(have h_:=rt_x i2 dc16 i1;omega)|exact rt_sq i2|(have h_:=bl_mul r r;have h2_:=rt_r i2;omega)|(have h_:=bl_mono (Nat.sub_le x.natAbs (r*r));omega)|decide)⟩) ?_
  refine .cR rfl [5] Tryz.func229 (fun H=>⟨_,ar2 (H.g 32 2) (H.r 35 5),gLess _ _ (H.was _ [5] F_x6) (SV.sub [5] (H.a 5 rfl) rfl) (by first|omega|(have h_:=rt_r i2;omega)|(have h_:=rt_x i2 dc16 i1;omega)|exact rt_sq i2|(have h_:=bl_mul r r;have h2_:=rt_r i2;omega)|(have h_:=bl_mono (Nat.sub_le x.natAbs (r*r));omega)|decide) (by first|omega|(have h_:=rt_r i2;omega)|(have h_:=rt_x i2 dc16 i1;omega)|exact rt_sq i2|(have h_:=bl_mul r r;have h2_:=rt_r i2;omega)|(have h_:=bl_mono (Nat.sub_le x.natAbs (r*r));omega)|decide)⟩) ?_
  refine .cK rfl Tryz.func220 (fun H=>⟨_,ar2 (H.c (.bool false)) (H.r 36 6),gMadeZ _ _ (SV.any (H.a 6 rfl)) (by first|omega|(have h_:=rt_r i2;omega)|(have h_:=rt_x i2 dc16 i1;omega)|exact rt_sq i2|(have h_:=bl_mul r r;have h2_:=rt_r i2;omega)|(have h_:=bl_mono (Nat.sub_le x.natAbs (r*r));omega)|decide)⟩) ?_
  refine .sz rfl 0 B3 (lt_of B3) (by intro y k hy;match y,hy with|0,hy=>rfl|1,hy=>simp at hy;exact absurd hy.1 (Ne.symm N3_4)) (fun H=>⟨(H.z 2 E1_1),(H.g 31 1)⟩) ?_
  refine .sz rfl 1 B4 (lt_of B4) (by intro y k hy;match y,hy with|0,hy=>simp at hy;exact absurd hy.1 N3_4|1,hy=>rfl) (fun H=>⟨(H.z 3 E1_2),(H.g 37 7)⟩) ?_
  refine .dd (fun u=>⟨List.toArray (wV x::sq u1 0 3 (u2 3::s5::.int .i64 j::d7::sq u2 0 3 (sq u4 0 3 (u5 0::u5 1::d16::d17::d18::d19::d20::d21::d22::d23::d24::d25::d26::d27::d28::d29::sq u 0 8 [])))),[]⟩) bel.size fun u11 w11 D=>?_
  replace B3:=D.ol 8
  replace B4:=D.ol 9
  replace bel:=D.d.base.bel bel bel.size (by simp;omega)
  clear D
  refine K22 _ _ ?_
  refine wp_ret ?_
  refine ret_ok rfl (by exact results_rows2 rfl (by exact E1_1) B3 Tryz.underlying23 rfl (by kernel_rfl) (by exact E1_2) B4 Tryz.underlying23 rfl (by kernel_rfl)) (RetV.mk ?_ bel)
  exact congrArg Ending.returned (by rw [← rt_end i2 i0 dc16];rfl)
end Go.Proofs.YtcboejgklgnifaaGreat
namespace Go.Proofs.YtcboejgklgnifaaGreat
open Go.RowKit Rgn Eng
variable {S:Nat→Prop} {W:World}
theorem fSqrt1(x:Rat)(p0:ht x≤8589934592)(p1:0≤x)(p2:((((x.num.natAbs-isq x.num.natAbs*isq x.num.natAbs:Nat):Int).sign) != 0)=false)(p3:(((((x.den:Int).natAbs-isq (x.den:Int).natAbs*isq (x.den:Int).natAbs:Nat):Int).sign) != 0)=false):Calls Tryz.prog 141 #[fV x] W (RetV (.tuple #[.agg ⟨(wC (isq x.num.natAbs:Int)).toList++(wC (isq (x.den:Int).natAbs:Int)).toList⟩,.bool true]) W):=by
 have n0:=hi_num x
 have n1:=hi_den x
 have n2:=hi_bl x.num
 have n3:=hi_bl (x.den:Int)
 refine Run.goP (S:=Z0) (Pack.nil.k (fV x) (fC x).toList (.s (.agg (ks 0 4)))) Tryz.func141 rfl ?_
 refine Run.cV [.int .i64 x.num.sign] kb (fun _ _ _ H=>fSign x) ?_
 refine Run.ic x.num.sign 0 (decide (x.num.sign<0)) ?_
 refine Run.kn (sign_nn p1) ?_
 refine Run.cV ((wC (isq x.num.natAbs:Int)).toList++(wC ((x.num.natAbs-isq x.num.natAbs*isq x.num.natAbs:Nat):Int)).toList) (.tup [.agg (ks 0 2),.agg (ks 2 2)]) (fun _ _ _ H=>rRoot x.num (by omega)) ?_
 refine Run.cV ((wC (isq (x.den:Int).natAbs:Int)).toList++(wC (((x.den:Int).natAbs-isq (x.den:Int).natAbs*isq (x.den:Int).natAbs:Nat):Int)).toList) (.tup [.agg (ks 0 2),.agg (ks 2 2)]) (fun _ _ _ H=>rRoot (x.den:Int) (by omega)) ?_
 refine Run.cV [.int .i64 (((x.num.natAbs-isq x.num.natAbs*isq x.num.natAbs:Nat):Int).sign)] kb (fun _ _ _ H=>rSign ((x.num.natAbs-isq x.num.natAbs*isq x.num.natAbs:Nat):Int)) ?_
 refine Run.ic (((x.num.natAbs-isq x.num.natAbs*isq x.num.natAbs:Nat):Int).sign) 0 ((((x.num.natAbs-isq x.num.natAbs*isq x.num.natAbs:Nat):Int).sign) != 0) ?_
 refine Run.kn p2 ?_
 refine Run.cV [.int .i64 ((((x.den:Int).natAbs-isq (x.den:Int).natAbs*isq (x.den:Int).natAbs:Nat):Int).sign)] kb (fun _ _ _ H=>rSign (((x.den:Int).natAbs-isq (x.den:Int).natAbs*isq (x.den:Int).natAbs:Nat):Int)) ?_
 refine Run.ic ((((x.den:Int).natAbs-isq (x.den:Int).natAbs*isq (x.den:Int).natAbs:Nat):Int).sign) 0 (((((x.den:Int).natAbs-isq (x.den:Int).natAbs*isq (x.den:Int).natAbs:Nat):Int).sign) != 0) ?_
 refine Run.kn p3 ?_
 exact Run.rV rfl
theorem fSqrt2(x:Rat)(p0:ht x≤8589934592)(p1:0≤x)(p2:((((x.num.natAbs-isq x.num.natAbs*isq x.num.natAbs:Nat):Int).sign) != 0)=true):Calls Tryz.prog 141 #[fV x] W (RetV (.tuple #[rfV rz.re,.bool false]) W):=by
 have n0:=hi_num x
 have n1:=hi_den x
 have n2:=hi_bl x.num
 have n3:=hi_bl (x.den:Int)
 refine Run.goP (S:=Z0) (Pack.nil.k (fV x) (fC x).toList (.s (.agg (ks 0 4)))) Tryz.func141 rfl ?_
 refine Run.cV [.int .i64 x.num.sign] kb (fun _ _ _ H=>fSign x) ?_
 refine Run.ic x.num.sign 0 (decide (x.num.sign<0)) ?_
 refine Run.kn (sign_nn p1) ?_
 refine Run.cV ((wC (isq x.num.natAbs:Int)).toList++(wC ((x.num.natAbs-isq x.num.natAbs*isq x.num.natAbs:Nat):Int)).toList) (.tup [.agg (ks 0 2),.agg (ks 2 2)]) (fun _ _ _ H=>rRoot x.num (by omega)) ?_
 refine Run.cV ((wC (isq (x.den:Int).natAbs:Int)).toList++(wC (((x.den:Int).natAbs-isq (x.den:Int).natAbs*isq (x.den:Int).natAbs:Nat):Int)).toList) (.tup [.agg (ks 0 2),.agg (ks 2 2)]) (fun _ _ _ H=>rRoot (x.den:Int) (by omega)) ?_
 refine Run.cV [.int .i64 (((x.num.natAbs-isq x.num.natAbs*isq x.num.natAbs:Nat):Int).sign)] kb (fun _ _ _ H=>rSign ((x.num.natAbs-isq x.num.natAbs*isq x.num.natAbs:Nat):Int)) ?_
 refine Run.ic (((x.num.natAbs-isq x.num.natAbs*isq x.num.natAbs:Nat):Int).sign) 0 ((((x.num.natAbs-isq x.num.natAbs*isq x.num.natAbs:Nat):Int).sign) != 0) ?_
 refine Run.kn p2 ?_
 exact Run.rV rfl
theorem fSqrt3(x:Rat)(p0:ht x≤8589934592)(p1:0≤x)(p2:((((x.num.natAbs-isq x.num.natAbs*isq x.num.natAbs:Nat):Int).sign) != 0)=false)(p3:(((((x.den:Int).natAbs-isq (x.den:Int).natAbs*isq (x.den:Int).natAbs:Nat):Int).sign) != 0)=true):Calls Tryz.prog 141 #[fV x] W (RetV (.tuple #[rfV rz.re,.bool false]) W):=by
 have n0:=hi_num x
 have n1:=hi_den x
 have n2:=hi_bl x.num
 have n3:=hi_bl (x.den:Int)
 refine Run.goP (S:=Z0) (Pack.nil.k (fV x) (fC x).toList (.s (.agg (ks 0 4)))) Tryz.func141 rfl ?_
 refine Run.cV [.int .i64 x.num.sign] kb (fun _ _ _ H=>fSign x) ?_
 refine Run.ic x.num.sign 0 (decide (x.num.sign<0)) ?_
 refine Run.kn (sign_nn p1) ?_
 refine Run.cV ((wC (isq x.num.natAbs:Int)).toList++(wC ((x.num.natAbs-isq x.num.natAbs*isq x.num.natAbs:Nat):Int)).toList) (.tup [.agg (ks 0 2),.agg (ks 2 2)]) (fun _ _ _ H=>rRoot x.num (by omega)) ?_
 refine Run.cV ((wC (isq (x.den:Int).natAbs:Int)).toList++(wC (((x.den:Int).natAbs-isq (x.den:Int).natAbs*isq (x.den:Int).natAbs:Nat):Int)).toList) (.tup [.agg (ks 0 2),.agg (ks 2 2)]) (fun _ _ _ H=>rRoot (x.den:Int) (by omega)) ?_
 refine Run.cV [.int .i64 (((x.num.natAbs-isq x.num.natAbs*isq x.num.natAbs:Nat):Int).sign)] kb (fun _ _ _ H=>rSign ((x.num.natAbs-isq x.num.natAbs*isq x.num.natAbs:Nat):Int)) ?_
 refine Run.ic (((x.num.natAbs-isq x.num.natAbs*isq x.num.natAbs:Nat):Int).sign) 0 ((((x.num.natAbs-isq x.num.natAbs*isq x.num.natAbs:Nat):Int).sign) != 0) ?_
 refine Run.kn p2 ?_
 refine Run.cV [.int .i64 ((((x.den:Int).natAbs-isq (x.den:Int).natAbs*isq (x.den:Int).natAbs:Nat):Int).sign)] kb (fun _ _ _ H=>rSign (((x.den:Int).natAbs-isq (x.den:Int).natAbs*isq (x.den:Int).natAbs:Nat):Int)) ?_
 refine Run.ic ((((x.den:Int).natAbs-isq (x.den:Int).natAbs*isq (x.den:Int).natAbs:Nat):Int).sign) 0 (((((x.den:Int).natAbs-isq (x.den:Int).natAbs*isq (x.den:Int).natAbs:Nat):Int).sign) != 0) ?_
 refine Run.kn p3 ?_
 exact Run.rV rfl
theorem sub_sign(a b:Nat)(h:b≤a):((((a-b:Nat):Int).sign) != 0) = !decide (b=a):=by
 rcases Nat.lt_or_eq_of_le h with c|c
 ·rw [Int.sign_eq_one_of_pos (by omega),decide_eq_false (by omega)];rfl
 ·subst c;simp
theorem fSqrtY(x:Rat)(p0:ht x≤8589934592)(p1:0≤x)(p2:isSq x=true):Calls Tryz.prog 141 #[fV x] W (RetV (.tuple #[fV (rootQ x),.bool true]) W):=by
 obtain⟨h1,h2⟩:=rootQ_sq p2
 obtain⟨h3,h4⟩:=rootQ_num p2
 have h:=fSqrt1 (W:=W) x p0 p1 (by rw [sub_sign _ _ (isq_le _),decide_eq_true h1];rfl) (by rw [sub_sign _ _ (isq_le _),decide_eq_true (show isq (x.den:Int).natAbs*isq (x.den:Int).natAbs=(x.den:Int).natAbs from h2)];rfl)
 have e:(.agg ⟨(wC (isq x.num.natAbs:Int)).toList++(wC (isq (x.den:Int).natAbs:Int)).toList⟩:Value)=fV (rootQ x):=by
  have h5:((isq (x.den:Int).natAbs:Nat):Int)=((rootQ x).den:Int):=h4.symm
  rw [← h3,h5];rfl
 rwa [e] at h
theorem fSqrtN(x:Rat)(p0:ht x≤8589934592)(p1:0≤x)(p2:isSq x=false):Calls Tryz.prog 141 #[fV x] W (RetV (.tuple #[rfV rz.re,.bool false]) W):=by
 rw [isSq_iff p1,Bool.and_eq_false_iff] at p2
 rcases Bool.eq_false_or_eq_true (decide (isq x.num.natAbs*isq x.num.natAbs=x.num.natAbs)) with c|c
 ·rcases p2 with h|h
  ·rw [h] at c;cases c
  ·exact fSqrt3 x p0 p1 (by rw [sub_sign _ _ (isq_le _),c];rfl) (by rw [sub_sign _ _ (isq_le _),show decide (isq (x.den:Int).natAbs*isq (x.den:Int).natAbs=(x.den:Int).natAbs)=false from h];rfl)
 ·exact fSqrt2 x p0 p1 (by rw [sub_sign _ _ (isq_le _),c];rfl)
end Go.Proofs.YtcboejgklgnifaaGreat
namespace Go.Proofs.YtcboejgklgnifaaGreat.Eng
open Go.RowKit Rgn
section
variable {P:Program} {S:Nat→Prop} {W:World} {κ:List Value} {Φ:List VP} {Q:Exit→Act→World→Prop} {m:MS}
def aftNt(T:TypeId)(t:Bool)(m:MS):MS :=
 match m.cur with
 | .ops all (o::rest)=>{ m with cur:=.ops all rest,fr:=putF m.fr o.dst (some (.tup [.o (.p m.bl.length 0),.o (.c (.bool t))])),bl:=m.bl++[⟨T,[],true,some m.nv,true⟩],nv:=m.nv+1,sf:=m.nv::m.sf }
 | _=>m
theorem Run.cNt{f:FuncId}{args:(Nat→Nat)→(Nat→Value)→Array Value}{φ:VP}(T:TypeId)(t:Bool)(hφ:SoftV φ)(hO:OwnV φ)(hc:∀ {A:Nat→Prop} β ℓ w,Inv A S W κ Φ ⟨β,κ,ℓ⟩ (runM P far m).bl (runM P far m).sf w→Calls P f (args β ℓ) w (Ret (VP.tup φ (VP.is (.bool t))) (fun _=>False) w))(rest:Run P S W κ (Φ++[φ]) Q (aftNt T t (runM P far m)))(ha:∀ β ℓ,argsOf P (runM P far m) ⟨β,κ,ℓ⟩=some (f,(args β ℓ).toList):=by intro β ℓ;kernel_rfl)(hf:fitB (runM P far m) κ Φ=true:=by kernel_rfl):Run P S W κ Φ Q m :=
 run_sound far <| Run.mk fun A0 E a w I G=>by
  obtain⟨β,κ', ℓ⟩:=E
  have e:=I.ek
  simp only at e
  subst e
  generalize hm:runM P far m=n at *
  obtain⟨o,all,rst,hcur,hg,hx⟩:=call_enter (w:=w) (ha β ℓ) G
  have hn' : aftNt T t n={ n with cur:=.ops all rst,fr:=putF n.fr o.dst (some (.tup [.o (.p n.bl.length 0),.o (.c (.bool t))])),bl:=n.bl++[⟨T,[],true,some n.nv,true⟩],nv:=n.nv+1,sf:=n.nv::n.sf }:=by unfold aftNt;rw [hcur]
  rw [hn'] at rest
  rw [den_op hcur]
  refine wpList_step fun K hK=>?_
  rw [if_pos hg]
  simp only [Oper.wp,hx,Oper.upon]
  refine (hc β ℓ w I).mono fun e w' hr=>?_
  obtain⟨v,rfl,⟨v1,v2,rfl,h1,h3⟩,h2⟩:=hr
  have h3:v2=.bool t:=h3
  subst h3
  obtain⟨z,rfl,k1,k2,k3⟩:=hO h1
  have hz:w.heap.size≤z:=k1.resolve_left id
  obtain⟨I', sm⟩:=I.new (T:=T) hf h2 hz k2 k3 (hφ k3)
  have hf' := hf
  simp only [fitB,MS.okB,Bool.and_eq_true] at hf'
  have G' := G.same sm hf'.1.1.1
  have e2:(SV.tup [.o (.p n.bl.length 0),.o (.c (.bool t))]).d ⟨fun b=>if b=n.bl.length then z else β b,κ', fun q=>if q<n.nv then ℓ q else .pointer none⟩=.tuple #[.pointer (some ⟨z,0,none⟩),.bool t]:=by
   show Value.tuple #[.pointer (some ⟨if n.bl.length=n.bl.length then z else _,0,none⟩),.bool t]=_
   rw [if_pos rfl]
  have G2:=put_v G' o.dst (.tup [.o (.p n.bl.length 0),.o (.c (.bool t))])
  rw [e2] at G2
  exact hK _ _ (rest.r _ _ _ w' I' G2)
end
end Go.Proofs.YtcboejgklgnifaaGreat.Eng
namespace Go.Proofs.YtcboejgklgnifaaGreat
open Go.RowKit Rgn Eng
variable {S:Nat→Prop} {W:World}
theorem eRootY{v0:Value}(q:Rat)(t0:(RatP q).p S v0 W)(p0:ht q≤8589934592)(p1:0≤q)(p2:isSq q=true):Calls Tryz.prog 125 #[v0] W (Ret (VP.tup (RatP (rootQ q)) (VP.is (.bool true))) Z0 W):=by
 have h:=eRoot q t0 p0 p1
 rwa [p2] at h
theorem eRootN{v0:Value}(q:Rat)(t0:(RatP q).p S v0 W)(p0:ht q≤8589934592)(p1:0≤q)(p2:isSq q=false):Calls Tryz.prog 125 #[v0] W (Ret (VP.tup (RatP (rootQ q)) (VP.is (.bool false))) Z0 W):=by
 have h:=eRoot q t0 p0 p1
 rwa [p2] at h
end Go.Proofs.YtcboejgklgnifaaGreat
namespace Go.Proofs.YtcboejgklgnifaaGreat
open Go.RowKit Rgn Eng
def roD(z:Cx)(x:Rat):Ci:=⟨x⁻¹,z.scale x⁻¹,((z.scale x⁻¹).norm-Rat.divInt (1:Int) (1:Int))*x⟩
def hfD(n z:Cx):Ci:=(Ci.mk 0 n ((n.conj.mul z).re+(n.conj.mul z).re)).times (-rootQ n.norm)⁻¹
def ofD(c:Ci)(s:Int):Ci:=(Ci.mk c.a c.b.conj.neg c.c).times (rootQ c.pow*Rat.divInt (-s) (1:Int))⁻¹
theorem sg_ne{x:Rat}(h:(x.num.sign == 0)=false):x≠0:=fun e=>by subst e;exact absurd h (by decide)
theorem mul_nn(x:Rat):0≤x*x:=sq_nn x
theorem norm_nn(n:Cx):0≤n.norm:=by
 have h1:=mul_nn n.re
 have h2:=mul_nn n.im
 show 0≤n.re*n.re+n.im*n.im
 grind
theorem pow_nn{c:Ci}(h:ciOk (rci c)=true):0≤c.pow:=by
 have h:=(ciOk_c h).2.1
 unfold Ci.pos at h
 have h1:¬ c.pow.num.sign≤0:=by simpa using h
 have h2:0<c.pow.num:=by
  rcases sign3 c.pow.num with⟨_,e⟩|⟨_,e⟩|⟨e,_⟩<;>omega
 exact Rat.num_nonneg.1 (Int.le_of_lt h2)
theorem pow_ne{c:Ci}(h:ciOk (rci c)=true):c.pow≠0:=by
 have h:=(ciOk_c h).2.1
 unfold Ci.pos at h
 intro e
 rw [e] at h
 exact absurd h (by decide)
theorem rootQ_ne{q:Rat}(h:isSq q=true)(h0:q≠0):rootQ q≠0:=fun e=>h0 (by
 have:=of_decide_eq_true h
 rw [e] at this;rw [← this];exact Rat.zero_mul 0)
theorem norm_ne{n:Cx}(h:n.zero=false):n.norm≠0:=by
 intro e
 have h1:=mul_nn n.re
 have h2:=mul_nn n.im
 have e:n.re*n.re+n.im*n.im=0:=e
 have h3:n.re*n.re=0:=by grind
 have h4:n.im*n.im=0:=by grind
 have h5:n.re=0:=by rcases Rat.mul_eq_zero.1 h3 with h|h<;>exact h
 have h6:n.im=0:=by rcases Rat.mul_eq_zero.1 h4 with h|h<;>exact h
 unfold Cx.zero at h
 rw [h5,h6] at h
 exact absurd h (by decide)
theorem neg_ne{x:Rat}(h:x≠0):-x≠0:=fun e=>h (by grind)
theorem root_ne{n:Cx}(h:n.zero=false)(h2:isSq n.norm=true):-rootQ n.norm≠0:=neg_ne (rootQ_ne h2 (norm_ne h))
theorem of_ne{c:Ci}(h:ciOk (rci c)=true)(h2:isSq c.pow=true){y:Rat}(hy:y≠0):rootQ c.pow*y≠0:=fun e=>by
 rcases Rat.mul_eq_zero.1 e with h3|h3
 ·exact rootQ_ne h2 (pow_ne h) h3
 ·exact hy h3
theorem of_ne1{c:Ci}(h:ciOk (rci c)=true)(h2:isSq c.pow=true):rootQ c.pow*Rat.divInt (-(1:Int)) (1:Int)≠0:=of_ne h h2 (by decide)
theorem of_nem{c:Ci}(h:ciOk (rci c)=true)(h2:isSq c.pow=true):rootQ c.pow*Rat.divInt (-(-1:Int)) (1:Int)≠0:=of_ne h h2 (by decide)
theorem roD_ht{z:Cx}{x:Rat}(p0:gfits (rg z)=true)(p1:fits (rf x)=true):ht (roD z x).a+ht (roD z x).b.re+ht (roD z x).b.im+ht (roD z x).c≤1073741824:=by
 have f0:=gfits_ht2 p0
 have f1:=fits_ht_le p1
 have f2:=ht_inv x
 have f3:=hc_scale z x⁻¹
 have f4:=hc_norm (z.scale x⁻¹)
 have f5:=ht_sub (z.scale x⁻¹).norm (Rat.divInt (1:Int) (1:Int))
 have f6:=ht_mul ((z.scale x⁻¹).norm-Rat.divInt (1:Int) (1:Int)) x
 have z2:ht (Rat.divInt (1:Int) (1:Int))=2:=by decide
 show ht x⁻¹+ht (z.scale x⁻¹).re+ht (z.scale x⁻¹).im+ht (((z.scale x⁻¹).norm-Rat.divInt (1:Int) (1:Int))*x)≤_
 omega
theorem tm_ht{a c y:Rat}{b:Cx}(h:ht a+ht b.re+ht b.im+ht c+4*ht y≤1000000):ht ((Ci.mk a b c).times y).a+ht ((Ci.mk a b c).times y).b.re+ht ((Ci.mk a b c).times y).b.im+ht ((Ci.mk a b c).times y).c≤1073741824:=by
 have g1:=ht_mul a y
 have g2:=hc_scale b y
 have g3:=ht_mul c y
 show ht (a*y)+ht (b.scale y).re+ht (b.scale y).im+ht (c*y)≤_
 omega
theorem tm_pre{a c y:Rat}{b:Cx}(h:ht a+ht b.re+ht b.im+ht c+4*ht y≤1000000):ht a+ht b.re+ht b.im+ht c+ht y≤67108864:=by omega
theorem hf_ht{n z:Cx}(p0:gfits (rg n)=true)(p1:gfits (rg z)=true):ht (0:Rat)+ht n.re+ht n.im+ht ((n.conj.mul z).re+(n.conj.mul z).re)+4*ht (-rootQ n.norm)⁻¹≤1000000:=by
 have f0:=gfits_ht2 p0
 have f1:=gfits_ht2 p1
 have f2:=hc_norm n
 have f3:=ht_rootQ n.norm
 have f4:=ht_neg (rootQ n.norm)
 have f5:=ht_inv (-rootQ n.norm)
 have f6:=hc_conj n
 have f7:=ht_zero
 have f8:=hc_mul n.conj z
 have f9:=ht_add (n.conj.mul z).re (n.conj.mul z).re
 omega
theorem of_ht{c:Ci}(p0:ciOk (rci c)=true){s:Int}(h:ht (Rat.divInt s (1:Int))=2):ht c.a+ht c.b.conj.neg.re+ht c.b.conj.neg.im+ht c.c+4*ht (rootQ c.pow*Rat.divInt s (1:Int))⁻¹≤1000000:=by
 have f0:=cifits_ht (ciOk_c p0).1
 have f1:=pow_ht c
 unfold Ci.hh Cx.hh at f1
 have f2:=ht_rootQ c.pow
 have f3:=ht_mul (rootQ c.pow) (Rat.divInt s (1:Int))
 have f4:=ht_inv (rootQ c.pow*Rat.divInt s (1:Int))
 have f6:=rim_hs c
 have f7:ht c.a+ht c.b.conj.neg.re+ht c.b.conj.neg.im+ht c.c=ht c.a+ht c.b.re+ht c.b.im+ht c.c:=f6
 omega
end Go.Proofs.YtcboejgklgnifaaGreat
namespace Go.Proofs.YtcboejgklgnifaaGreat
open Go.RowKit Rgn Eng
variable {S:Nat→Prop} {W:World}
theorem ofY1(c:Ci)(p0:ciOk (rci c)=true)(p1:isSq c.pow=true):Calls Tryz.prog 42 #[ciV c,.int .i64 1] W (RetV (.tuple #[rciV (cicut (ofD c (1))),.int .i64 (cierr (ofD c (1)))]) W):=by
 have f0:=cifits_ht (ciOk_c p0).1
 have f1:=pow_ht c
 unfold Ci.hh Cx.hh at f1
 have f2:=ht_rootQ c.pow
 have z2:ht (Rat.divInt (-(1:Int)) (1:Int))=2:=by decide
 have f3:=ht_mul (rootQ c.pow) (Rat.divInt (-(1:Int)) (1:Int))
 have f4:=ht_inv (rootQ c.pow*Rat.divInt (-(1:Int)) (1:Int))
 have f5:=hc_conj c.b
 have f6:=rim_hs c
 have g1:=ht_mul c.a (rootQ c.pow*Rat.divInt (-(1:Int)) (1:Int))⁻¹
 have g2:=hc_scale c.b.conj.neg (rootQ c.pow*Rat.divInt (-(1:Int)) (1:Int))⁻¹
 have g3:=ht_mul c.c (rootQ c.pow*Rat.divInt (-(1:Int)) (1:Int))⁻¹
 have k0:=hc_conj c.b
 have k1:=hc_neg c.b.conj
 refine Run.goP (S:=Z0) ((Pack.nil.k (ciV c) (ciC c).toList (.s (.agg (ks 0 16)))).k (.int .i64 1) [] (.s (.o (.c (.int .i64 1))))) Tryz.func42 rfl ?_
 refine Run.cR (spRingC true) (fun _ _ _ H=>eWheelO c p0) ?_
 refine Run.cR spRat (fun _ _ _ H=>rgPow c (RingP.mk (H.f 0) (H.f 1) (H.f 2) (H.f 3)) (by first|exact tm_ht (of_ht p0 z2)|omega)) ?_
 refine Run.cNt 193 true softRat ownRat (fun _ _ _ H=>eRootY c.pow (H.f 4) (by first|omega|(dsimp only [Ci.times];omega)) (by exact pow_nn p0) p1) ?_
 refine Run.dr ?_
 refine RunD.cR spNum (fun _ _ _ H=>eConj c.b (NumP.mk (H.f 1) (H.f 2)) (by first|omega|(dsimp only [Ci.times];omega))) ?_
 refine RunD.cR spNum (fun _ _ _ H=>eNeg c.b.conj (NumP.mk (H.f 6) (H.f 7)) (by first|omega|(dsimp only [Ci.times];omega))) ?_
 refine RunD.en ?_
 refine Run.dr ?_
 refine RunD.un 1 (by decide) ?_
 refine RunD.cR spRat (fun _ _ _ H=>qNewRat (-1) 1 (by decide) (by decide) (by decide) (by decide) (by decide)) ?_
 refine RunD.cO 3 softRat (fun _ _ _ H=>qMul (rootQ c.pow) (Rat.divInt (-1) 1) (RatP.blk (q:=rootQ c.pow) (H.o 3)) (anyV (H.o 3)) (anyV (H.f 10)) (by first|omega|(dsimp only [Ci.times];omega))) ?_
 refine RunD.cO 3 softRat (fun _ _ _ H=>qInv ((rootQ c.pow)*(Rat.divInt (-1) 1)) (RatP.blk (q:=(rootQ c.pow)*(Rat.divInt (-1) 1)) (H.o 3)) (anyV (H.o 3)) (by first|omega|(dsimp only [Ci.times];omega)) (by exact of_ne1 p0 p1)) ?_
 refine RunD.cRs [3] spRing (fun _ _ _ H=>dsTimes (Ci.mk c.a c.b.conj.neg c.c) (((rootQ c.pow)*(Rat.divInt (-1) 1))⁻¹) (RingP.mk (H.f 0) (H.f 8) (H.f 9) (H.f 3)) (H.s 3) (by exact tm_pre (of_ht p0 z2))) ?_
 refine RunD.cV ((rciC (cicut ((Ci.mk c.a c.b.conj.neg c.c).times (((rootQ c.pow)*(Rat.divInt (-1) 1))⁻¹)))).toList++[.int .i64 (cierr ((Ci.mk c.a c.b.conj.neg c.c).times (((rootQ c.pow)*(Rat.divInt (-1) 1))⁻¹)))]) (.tup [.agg (ks 0 16),.o (.k 16)]) (fun _ _ _ H=>dsTold ((Ci.mk c.a c.b.conj.neg c.c).times (((rootQ c.pow)*(Rat.divInt (-1) 1))⁻¹)) (RingP.mk (H.f 13) (H.f 14) (H.f 15) (H.f 16)) (by first|exact tm_ht (of_ht p0 z2)|omega)) ?_
 refine RunD.en ?_
 exact Run.rV rfl
theorem ofS1(c:Ci)(p0:ciOk (rci c)=true)(p1:isSq c.pow=false):Calls Tryz.prog 42 #[ciV c,.int .i64 1] W (RetV (.tuple #[rciV rzCi,.int .i64 7]) W):=by
 have f0:=cifits_ht (ciOk_c p0).1
 have f1:=pow_ht c
 unfold Ci.hh Cx.hh at f1
 refine Run.goP (S:=Z0) ((Pack.nil.k (ciV c) (ciC c).toList (.s (.agg (ks 0 16)))).k (.int .i64 1) [] (.s (.o (.c (.int .i64 1))))) Tryz.func42 rfl ?_
 refine Run.cR (spRingC true) (fun _ _ _ H=>eWheelO c p0) ?_
 refine Run.cR spRat (fun _ _ _ H=>rgPow c (RingP.mk (H.f 0) (H.f 1) (H.f 2) (H.f 3)) (by first|exact tm_ht (of_ht p0 z2)|omega)) ?_
 refine Run.cNt 193 false softRat ownRat (fun _ _ _ H=>eRootN c.pow (H.f 4) (by first|omega|(dsimp only [Ci.times];omega)) (by exact pow_nn p0) p1) ?_
 exact Run.rV rfl
theorem ofYm(c:Ci)(p0:ciOk (rci c)=true)(p1:isSq c.pow=true):Calls Tryz.prog 42 #[ciV c,.int .i64 (-1)] W (RetV (.tuple #[rciV (cicut (ofD c (-1))),.int .i64 (cierr (ofD c (-1)))]) W):=by
 have f0:=cifits_ht (ciOk_c p0).1
 have f1:=pow_ht c
 unfold Ci.hh Cx.hh at f1
 have f2:=ht_rootQ c.pow
 have z2:ht (Rat.divInt (-(-1:Int)) (1:Int))=2:=by decide
 have f3:=ht_mul (rootQ c.pow) (Rat.divInt (-(-1:Int)) (1:Int))
 have f4:=ht_inv (rootQ c.pow*Rat.divInt (-(-1:Int)) (1:Int))
 have f5:=hc_conj c.b
 have f6:=rim_hs c
 have g1:=ht_mul c.a (rootQ c.pow*Rat.divInt (-(-1:Int)) (1:Int))⁻¹
 have g2:=hc_scale c.b.conj.neg (rootQ c.pow*Rat.divInt (-(-1:Int)) (1:Int))⁻¹
 have g3:=ht_mul c.c (rootQ c.pow*Rat.divInt (-(-1:Int)) (1:Int))⁻¹
 have k0:=hc_conj c.b
 have k1:=hc_neg c.b.conj
 refine Run.goP (S:=Z0) ((Pack.nil.k (ciV c) (ciC c).toList (.s (.agg (ks 0 16)))).k (.int .i64 (-1)) [] (.s (.o (.c (.int .i64 (-1)))))) Tryz.func42 rfl ?_
 refine Run.cR (spRingC true) (fun _ _ _ H=>eWheelO c p0) ?_
 refine Run.cR spRat (fun _ _ _ H=>rgPow c (RingP.mk (H.f 0) (H.f 1) (H.f 2) (H.f 3)) (by first|exact tm_ht (of_ht p0 z2)|omega)) ?_
 refine Run.cNt 193 true softRat ownRat (fun _ _ _ H=>eRootY c.pow (H.f 4) (by first|omega|(dsimp only [Ci.times];omega)) (by exact pow_nn p0) p1) ?_
 refine Run.dr ?_
 refine RunD.cR spNum (fun _ _ _ H=>eConj c.b (NumP.mk (H.f 1) (H.f 2)) (by first|omega|(dsimp only [Ci.times];omega))) ?_
 refine RunD.cR spNum (fun _ _ _ H=>eNeg c.b.conj (NumP.mk (H.f 6) (H.f 7)) (by first|omega|(dsimp only [Ci.times];omega))) ?_
 refine RunD.en ?_
 refine Run.dr ?_
 refine RunD.un (-1) (by decide) ?_
 refine RunD.cR spRat (fun _ _ _ H=>qNewRat (-(-1)) 1 (by first|omega|(dsimp only [Ci.times];omega)) (by first|omega|(dsimp only [Ci.times];omega)) (by decide) (by decide) (by decide)) ?_
 refine RunD.cO 3 softRat (fun _ _ _ H=>qMul (rootQ c.pow) (Rat.divInt (-(-1)) 1) (RatP.blk (q:=rootQ c.pow) (H.o 3)) (anyV (H.o 3)) (anyV (H.f 10)) (by first|omega|(dsimp only [Ci.times];omega))) ?_
 refine RunD.cO 3 softRat (fun _ _ _ H=>qInv ((rootQ c.pow)*(Rat.divInt (-(-1)) 1)) (RatP.blk (q:=(rootQ c.pow)*(Rat.divInt (-(-1)) 1)) (H.o 3)) (anyV (H.o 3)) (by first|omega|(dsimp only [Ci.times];omega)) (by exact of_nem p0 p1)) ?_
 refine RunD.cRs [3] spRing (fun _ _ _ H=>dsTimes (Ci.mk c.a c.b.conj.neg c.c) (((rootQ c.pow)*(Rat.divInt (-(-1)) 1))⁻¹) (RingP.mk (H.f 0) (H.f 8) (H.f 9) (H.f 3)) (H.s 3) (by exact tm_pre (of_ht p0 z2))) ?_
 refine RunD.cV ((rciC (cicut ((Ci.mk c.a c.b.conj.neg c.c).times (((rootQ c.pow)*(Rat.divInt (-(-1)) 1))⁻¹)))).toList++[.int .i64 (cierr ((Ci.mk c.a c.b.conj.neg c.c).times (((rootQ c.pow)*(Rat.divInt (-(-1)) 1))⁻¹)))]) (.tup [.agg (ks 0 16),.o (.k 16)]) (fun _ _ _ H=>dsTold ((Ci.mk c.a c.b.conj.neg c.c).times (((rootQ c.pow)*(Rat.divInt (-(-1)) 1))⁻¹)) (RingP.mk (H.f 13) (H.f 14) (H.f 15) (H.f 16)) (by first|exact tm_ht (of_ht p0 z2)|omega)) ?_
 refine RunD.en ?_
 exact Run.rV rfl
theorem ofSm(c:Ci)(p0:ciOk (rci c)=true)(p1:isSq c.pow=false):Calls Tryz.prog 42 #[ciV c,.int .i64 (-1)] W (RetV (.tuple #[rciV rzCi,.int .i64 7]) W):=by
 have f0:=cifits_ht (ciOk_c p0).1
 have f1:=pow_ht c
 unfold Ci.hh Cx.hh at f1
 refine Run.goP (S:=Z0) ((Pack.nil.k (ciV c) (ciC c).toList (.s (.agg (ks 0 16)))).k (.int .i64 (-1)) [] (.s (.o (.c (.int .i64 (-1)))))) Tryz.func42 rfl ?_
 refine Run.cR (spRingC true) (fun _ _ _ H=>eWheelO c p0) ?_
 refine Run.cR spRat (fun _ _ _ H=>rgPow c (RingP.mk (H.f 0) (H.f 1) (H.f 2) (H.f 3)) (by first|exact tm_ht (of_ht p0 z2)|omega)) ?_
 refine Run.cNt 193 false softRat ownRat (fun _ _ _ H=>eRootN c.pow (H.f 4) (by first|omega|(dsimp only [Ci.times];omega)) (by exact pow_nn p0) p1) ?_
 exact Run.rV rfl
theorem hfY(n z:Cx)(p0:gfits (rg n)=true)(p1:gfits (rg z)=true)(p2:n.zero=false)(p3:isSq n.norm=true):Calls Tryz.prog 41 #[gV n,gV z] W (RetV (.tuple #[rciV (cicut (hfD n z)),.int .i64 (cierr (hfD n z))]) W):=by
 have f0:=gfits_ht2 p0
 have f1:=gfits_ht2 p1
 have f2:=hc_norm n
 have f3:=ht_rootQ n.norm
 have f4:=ht_neg (rootQ n.norm)
 have f5:=ht_inv (-rootQ n.norm)
 have f6:=hc_conj n
 have f7:=ht_zero
 have f8:=hc_mul n.conj z
 have f9:=ht_add (n.conj.mul z).re (n.conj.mul z).re
 have g1:=ht_mul (0:Rat) (-rootQ n.norm)⁻¹
 have g2:=hc_scale n (-rootQ n.norm)⁻¹
 have g3:=ht_mul ((n.conj.mul z).re+(n.conj.mul z).re) (-rootQ n.norm)⁻¹
 have k0:=hc_norm n
 have k1:=hc_conj n
 have k2:=hc_mul n.conj z
 refine Run.goP (S:=Z0) ((Pack.nil.k (gV n) (gC n).toList (.s (.agg (ks 0 8)))).k (gV z) (gC z).toList (.s (.agg (ks 0 8)))) Tryz.func41 rfl ?_
 refine Run.cR (spNumC true) (fun _ _ _ H=>eOf n p0) ?_
 refine Run.cR (spNumC true) (fun _ _ _ H=>eOf z p1) ?_
 refine Run.cV [.bool n.zero] kb (fun _ _ _ H=>eZero n (NumP.mk (H.f 0) (H.f 1))) ?_
 refine Run.kn p2 ?_
 refine Run.cR spRat (fun _ _ _ H=>eNorm n (NumP.mk (H.f 0) (H.f 1)) (by first|omega|(dsimp only [Ci.times];omega))) ?_
 refine Run.cNt 193 true softRat ownRat (fun _ _ _ H=>eRootY n.norm (H.f 4) (by first|omega|(dsimp only [Ci.times];omega)) (by exact norm_nn n) p3) ?_
 refine Run.dr ?_
 refine RunD.cR spNum (fun _ _ _ H=>eConj n (NumP.mk (H.f 0) (H.f 1)) (by first|omega|(dsimp only [Ci.times];omega))) ?_
 refine RunD.cR spNum (fun _ _ _ H=>eNMul n.conj z (NumP.mk (H.f 6) (H.f 7)) (NumP.mk (H.f 2) (H.f 3)) (by first|omega|(dsimp only [Ci.times];omega))) ?_
 refine RunD.cR sp2Rat (fun _ _ _ H=>eParts (n.conj.mul z) (NumP.mk (H.f 8) (H.f 9))) ?_
 refine RunD.en ?_
 refine Run.dr ?_
 refine RunD.cO 7 softRat (fun _ _ _ H=>qAdd ((n.conj.mul z).re) ((n.conj.mul z).re) (RatP.blk (H.oz 7)) (anyV (H.f 10)) (anyV (H.f 10)) (by first|omega|(dsimp only [Ci.times];omega))) ?_
 refine RunD.en ?_
 refine Run.dr ?_
 refine RunD.cO 5 softRat (fun _ _ _ H=>qNeg (rootQ n.norm) (RatP.blk (q:=rootQ n.norm) (H.o 5)) (anyV (H.o 5)) (by first|omega|(dsimp only [Ci.times];omega))) ?_
 refine RunD.cO 5 softRat (fun _ _ _ H=>qInv (-(rootQ n.norm)) (RatP.blk (q:=-(rootQ n.norm)) (H.o 5)) (anyV (H.o 5)) (by first|omega|(dsimp only [Ci.times];omega)) (by exact root_ne p2 p3)) ?_
 refine RunD.cRs [6,7,5] spRing (fun _ _ _ H=>dsTimes (Ci.mk (0:Rat) n (((n.conj.mul z).re)+((n.conj.mul z).re))) ((-(rootQ n.norm))⁻¹) (RingP.mk (H.rz 6) (H.f 0) (H.f 1) (H.s 7)) (H.s 5) (by exact tm_pre (hf_ht p0 p1))) ?_
 refine RunD.cV ((rciC (cicut ((Ci.mk (0:Rat) n (((n.conj.mul z).re)+((n.conj.mul z).re))).times ((-(rootQ n.norm))⁻¹)))).toList++[.int .i64 (cierr ((Ci.mk (0:Rat) n (((n.conj.mul z).re)+((n.conj.mul z).re))).times ((-(rootQ n.norm))⁻¹)))]) (.tup [.agg (ks 0 16),.o (.k 16)]) (fun _ _ _ H=>dsTold ((Ci.mk (0:Rat) n (((n.conj.mul z).re)+((n.conj.mul z).re))).times ((-(rootQ n.norm))⁻¹)) (RingP.mk (H.f 15) (H.f 16) (H.f 17) (H.f 18)) (by exact tm_ht (hf_ht p0 p1))) ?_
 refine RunD.en ?_
 exact Run.rV rfl
theorem hfS(n z:Cx)(p0:gfits (rg n)=true)(p1:gfits (rg z)=true)(p2:n.zero=false)(p3:isSq n.norm=false):Calls Tryz.prog 41 #[gV n,gV z] W (RetV (.tuple #[rciV rzCi,.int .i64 7]) W):=by
 have f0:=gfits_ht2 p0
 have f1:=gfits_ht2 p1
 have f2:=hc_norm n
 have k0:=hc_norm n
 refine Run.goP (S:=Z0) ((Pack.nil.k (gV n) (gC n).toList (.s (.agg (ks 0 8)))).k (gV z) (gC z).toList (.s (.agg (ks 0 8)))) Tryz.func41 rfl ?_
 refine Run.cR (spNumC true) (fun _ _ _ H=>eOf n p0) ?_
 refine Run.cR (spNumC true) (fun _ _ _ H=>eOf z p1) ?_
 refine Run.cV [.bool n.zero] kb (fun _ _ _ H=>eZero n (NumP.mk (H.f 0) (H.f 1))) ?_
 refine Run.kn p2 ?_
 refine Run.cR spRat (fun _ _ _ H=>eNorm n (NumP.mk (H.f 0) (H.f 1)) (by first|omega|(dsimp only [Ci.times];omega))) ?_
 refine Run.cNt 193 false softRat ownRat (fun _ _ _ H=>eRootN n.norm (H.f 4) (by first|omega|(dsimp only [Ci.times];omega)) (by exact norm_nn n) p3) ?_
 exact Run.rV rfl
theorem eNormN{v0:Value}(x:Cx)(t0:(NumP x).p S v0 W)(p0:ht x.re+ht x.im≤8589934592):Calls Tryz.prog 120 #[v0] W (Ret (RatP x.norm) Z0 W):=by
 have h1:=ht_mul x.re x.re
 have h2:=ht_mul x.im x.im
 have k0:=ht_mul x.re x.re
 have k1:=ht_mul x.im x.im
 refine Run.goP (S:=S) (Pack.nil.s spNum t0) Tryz.func120 rfl ?_
 refine Run.dr ?_
 refine RunD.cR spRat (fun _ _ _ H=>eMul x.re x.re (H.f 0) (H.f 0) (by omega)) ?_
 refine RunD.cR spRat (fun _ _ _ H=>eMul x.im x.im (H.f 1) (H.f 1) (by omega)) ?_
 refine RunD.cO 1 softRat (fun _ _ _ H=>qAdd (x.re*x.re) (x.im*x.im) (RatP.blk (H.oz 1)) (anyV (H.f 2)) (anyV (H.f 3)) (by omega)) ?_
 refine RunD.en ?_
 exact Run.rN (φ:=RatP (x.norm)) 1 (fun _ _ _ H=>⟨H.ow 1,H.o 1⟩)
theorem roZ(z:Cx)(x:Rat)(p0:gfits (rg z)=true)(p1:fits (rf x)=true)(p2:(x.num.sign == 0)=true):Calls Tryz.prog 40 #[gV z,fV x] W (RetV (.tuple #[rciV rzCi,.int .i64 5]) W):=by
 refine Run.goP (S:=Z0) ((Pack.nil.k (gV z) (gC z).toList (.s (.agg (ks 0 8)))).k (fV x) (fC x).toList (.s (.agg (ks 0 4)))) Tryz.func40 rfl ?_
 refine Run.cR (spNumC true) (fun _ _ _ H=>eOf z p0) ?_
 refine Run.cR spRat (fun _ _ _ H=>eRatOk x p1) ?_
 refine Run.np 2 (x) 129 .eql false (.inl ⟨rfl,rfl⟩) (fun c w=>by kernel_rfl) ?_
 refine Run.cV [.int .i64 x.num.sign] kb (fun _ _ _ H=>qSign x (H.f 2)) ?_
 refine Run.ic x.num.sign 0 (x.num.sign == 0) ?_
 refine Run.kn p2 ?_
 exact Run.rV rfl
theorem roN1(z:RG)(x:RF)(p0:gmay z=false)(p1:fmay x=true):Calls Tryz.prog 40 #[rgV z,rfV x] W (RetV (.tuple #[rciV rzCi,.int .i64 2]) W):=by
 refine Run.goP (S:=Z0) ((Pack.nil.k (rgV z) (rgC z).toList (.s (.agg (ks 0 8)))).k (rfV x) (rfC x).toList (.s (.agg (ks 0 4)))) Tryz.func40 rfl ?_
 refine Run.cR spNumK (fun _ _ _ H=>eOfR z) ?_
 refine Run.cR spRat (fun _ _ _ H=>eRatT x p1) ?_
 refine Run.kn p0 ?_
 exact Run.rV rfl
theorem roN2(z:RG)(x:RF)(p0:gmay z=true)(p1:fmay x=false):Calls Tryz.prog 40 #[rgV z,rfV x] W (RetV (.tuple #[rciV rzCi,.int .i64 2]) W):=by
 refine Run.goP (S:=Z0) ((Pack.nil.k (rgV z) (rgC z).toList (.s (.agg (ks 0 8)))).k (rfV x) (rfC x).toList (.s (.agg (ks 0 4)))) Tryz.func40 rfl ?_
 refine Run.cR spNumK (fun _ _ _ H=>eOfR z) ?_
 refine Run.cV [] (.s (.o (.c (.pointer none)))) (fun _ _ _ H=>eRatF x p1) ?_
 refine Run.kn p0 ?_
 refine Run.bi (op:=.eql) (t:=129) (a:=.pointer none) (c:=.pointer none) [] (cb true) (fun w o ρ x y t' ho hx hy=>ex_zz (fun w=>by kernel_rfl) ho hx hy) ?_
 exact Run.rV rfl
theorem roN3(z:RG)(x:RF)(p0:gmay z=false)(p1:fmay x=false):Calls Tryz.prog 40 #[rgV z,rfV x] W (RetV (.tuple #[rciV rzCi,.int .i64 2]) W):=by
 refine Run.goP (S:=Z0) ((Pack.nil.k (rgV z) (rgC z).toList (.s (.agg (ks 0 8)))).k (rfV x) (rfC x).toList (.s (.agg (ks 0 4)))) Tryz.func40 rfl ?_
 refine Run.cR spNumK (fun _ _ _ H=>eOfR z) ?_
 refine Run.cV [] (.s (.o (.c (.pointer none)))) (fun _ _ _ H=>eRatF x p1) ?_
 refine Run.kn p0 ?_
 exact Run.rV rfl
theorem hfZ(n z:Cx)(p0:gfits (rg n)=true)(p1:gfits (rg z)=true)(p2:n.zero=true):Calls Tryz.prog 41 #[gV n,gV z] W (RetV (.tuple #[rciV rzCi,.int .i64 5]) W):=by
 refine Run.goP (S:=Z0) ((Pack.nil.k (gV n) (gC n).toList (.s (.agg (ks 0 8)))).k (gV z) (gC z).toList (.s (.agg (ks 0 8)))) Tryz.func41 rfl ?_
 refine Run.cR (spNumC true) (fun _ _ _ H=>eOf n p0) ?_
 refine Run.cR (spNumC true) (fun _ _ _ H=>eOf z p1) ?_
 refine Run.cV [.bool n.zero] kb (fun _ _ _ H=>eZero n (NumP.mk (H.f 0) (H.f 1))) ?_
 refine Run.kn p2 ?_
 exact Run.rV rfl
theorem hfN1(n z:RG)(p0:gmay n=false):Calls Tryz.prog 41 #[rgV n,rgV z] W (RetV (.tuple #[rciV rzCi,.int .i64 2]) W):=by
 refine Run.goP (S:=Z0) ((Pack.nil.k (rgV n) (rgC n).toList (.s (.agg (ks 0 8)))).k (rgV z) (rgC z).toList (.s (.agg (ks 0 8)))) Tryz.func41 rfl ?_
 refine Run.cR spNumK (fun _ _ _ H=>eOfR n) ?_
 refine Run.cR spNumK (fun _ _ _ H=>eOfR z) ?_
 refine Run.kn p0 ?_
 exact Run.rV rfl
theorem hfN2(n z:RG)(p0:gmay n=true)(p1:gmay z=false):Calls Tryz.prog 41 #[rgV n,rgV z] W (RetV (.tuple #[rciV rzCi,.int .i64 2]) W):=by
 refine Run.goP (S:=Z0) ((Pack.nil.k (rgV n) (rgC n).toList (.s (.agg (ks 0 8)))).k (rgV z) (rgC z).toList (.s (.agg (ks 0 8)))) Tryz.func41 rfl ?_
 refine Run.cR spNumK (fun _ _ _ H=>eOfR n) ?_
 refine Run.cR spNumK (fun _ _ _ H=>eOfR z) ?_
 refine Run.kn p0 ?_
 refine Run.kn p1 ?_
 exact Run.rV rfl
theorem ofN1(c:RCi)(s:Int)(p0:ciOk c=false):Calls Tryz.prog 42 #[rciV c,.int .i64 s] W (RetV (.tuple #[rciV rzCi,.int .i64 2]) W):=by
 refine Run.goP (S:=Z0) ((Pack.nil.k (rciV c) (rciC c).toList (.s (.agg (ks 0 16)))).k (.int .i64 s) [.int .i64 s] kb) Tryz.func42 rfl ?_
 refine Run.cR (spRingJC false) (fun _ _ _ H=>eWheelN c p0) ?_
 exact Run.rV rfl
theorem ofN2(c:Ci)(s:Int)(p0:ciOk (rci c)=true)(p1:(s != 1)=true)(p2:(s != (-1))=true):Calls Tryz.prog 42 #[ciV c,.int .i64 s] W (RetV (.tuple #[rciV rzCi,.int .i64 2]) W):=by
 refine Run.goP (S:=Z0) ((Pack.nil.k (ciV c) (ciC c).toList (.s (.agg (ks 0 16)))).k (.int .i64 s) [.int .i64 s] kb) Tryz.func42 rfl ?_
 refine Run.cR (spRingC true) (fun _ _ _ H=>eWheelO c p0) ?_
 refine Run.ic s 1 (s != 1) ?_
 refine Run.kn p1 ?_
 refine Run.ic s (-1) (s != (-1)) ?_
 refine Run.kn p2 ?_
 exact Run.rV rfl
theorem roY(z:Cx)(x:Rat)(p0:gfits (rg z)=true)(p1:fits (rf x)=true)(p2:(x.num.sign == 0)=false):Calls Tryz.prog 40 #[gV z,fV x] W (RetV (.tuple #[rciV (cicut (roD z x)),.int .i64 (cierr (roD z x))]) W):=by
 have f0:=gfits_ht2 p0
 have f1:=fits_ht_le p1
 have f2:=ht_inv x
 have f3:=hc_scale z x⁻¹
 have f4:=hc_norm (z.scale x⁻¹)
 have f5:=ht_sub (z.scale x⁻¹).norm (Rat.divInt (1:Int) (1:Int))
 have f6:=ht_mul ((z.scale x⁻¹).norm-Rat.divInt (1:Int) (1:Int)) x
 have z2:ht (Rat.divInt (1:Int) (1:Int))=2:=by decide
 have k0:=hc_scale z (x⁻¹)
 refine Run.goP (S:=Z0) ((Pack.nil.k (gV z) (gC z).toList (.s (.agg (ks 0 8)))).k (fV x) (fC x).toList (.s (.agg (ks 0 4)))) Tryz.func40 rfl ?_
 refine Run.cR (spNumC true) (fun _ _ _ H=>eOf z p0) ?_
 refine Run.cR spRat (fun _ _ _ H=>eRatOk x p1) ?_
 refine Run.np 2 (x) 129 .eql false (.inl ⟨rfl,rfl⟩) (fun c w=>by kernel_rfl) ?_
 refine Run.cV [.int .i64 x.num.sign] kb (fun _ _ _ H=>qSign x (H.f 2)) ?_
 refine Run.ic x.num.sign 0 (x.num.sign == 0) ?_
 refine Run.kn p2 ?_
 refine Run.cO 4 softRat (fun _ _ _ H=>qInv x (RatP.blk (H.oz 4)) (anyV (H.f 2)) (by first|omega|(dsimp only [Ci.times];omega)) (by exact sg_ne p2)) ?_
 refine Run.se 4 ?_
 refine Run.cR spNum (fun _ _ _ H=>eScale z (x⁻¹) (NumP.mk (H.f 0) (H.f 1)) (RatP.n (H.s 4)) (by first|omega|(dsimp only [Ci.times];omega))) ?_
 refine Run.cN 193 softRat ownRat (fun _ _ _ H=>eNormN (z.scale (x⁻¹)) (NumP.mk (H.f 4) (H.f 5)) (by first|omega|(dsimp only [Ci.times];omega))) ?_
 refine Run.cR spRat (fun _ _ _ H=>qNewRat 1 1 (by decide) (by decide) (by decide) (by decide) (by decide)) ?_
 refine Run.cO 6 softRat (fun _ _ _ H=>qSub ((z.scale (x⁻¹)).norm) (Rat.divInt 1 1) (RatP.blk (q:=(z.scale (x⁻¹)).norm) (H.o 6)) (anyV (H.o 6)) (anyV (H.f 7)) (by first|omega|(dsimp only [Ci.times];omega))) ?_
 refine Run.cO 6 softRat (fun _ _ _ H=>qMul (((z.scale (x⁻¹)).norm)-(Rat.divInt 1 1)) x (RatP.blk (q:=((z.scale (x⁻¹)).norm)-(Rat.divInt 1 1)) (H.o 6)) (anyV (H.o 6)) (anyV (H.f 2)) (by first|omega|(dsimp only [Ci.times];omega))) ?_
 refine Run.cV ((rciC (cicut (Ci.mk (x⁻¹) (z.scale (x⁻¹)) ((((z.scale (x⁻¹)).norm)-(Rat.divInt 1 1))*x)))).toList++[.int .i64 (cierr (Ci.mk (x⁻¹) (z.scale (x⁻¹)) ((((z.scale (x⁻¹)).norm)-(Rat.divInt 1 1))*x)))]) (.tup [.agg (ks 0 16),.o (.k 16)]) (fun _ _ _ H=>dsTold (Ci.mk (x⁻¹) (z.scale (x⁻¹)) ((((z.scale (x⁻¹)).norm)-(Rat.divInt 1 1))*x)) (RingP.mk (anyV (H.o 4)) (anyV (H.f 4)) (anyV (H.f 5)) (anyV (H.o 6))) (by exact roD_ht p0 p1)) ?_
 exact Run.rV rfl
theorem rdSc(z:Cx)(x:Rat)(p0:ht z.re+ht z.im+ht x≤67108864):Calls Tryz.prog 85 #[gV z,fV x] W (RetV (gV (z.scale x)) W):=by
 have k0:=ht_mul z.re x
 have k1:=ht_mul z.im x
 refine Run.goP (S:=Z0) ((Pack.nil.k (gV z) (gC z).toList (.s (.agg (ks 0 8)))).k (fV x) (fC x).toList (.s (.agg (ks 0 4)))) Tryz.func85 rfl ?_
 refine Run.dr ?_
 refine RunD.cV (fC (z.re*x)).toList (.s (.agg (ks 0 4))) (fun _ _ _ H=>fTimes z.re x (by omega)) ?_
 refine RunD.cV (fC (z.im*x)).toList (.s (.agg (ks 0 4))) (fun _ _ _ H=>fTimes z.im x (by omega)) ?_
 refine RunD.en ?_
 exact Run.rV rfl
end Go.Proofs.YtcboejgklgnifaaGreat
namespace Go.Proofs.YtcboejgklgnifaaGreat
open Go.RowKit Rgn Eng
theorem is_1{w:Ci}(h:cifits (rci w)=true):decide (cicut w=rci w)=true:=decide_eq_true (ok_r h)
theorem is_2{w:Ci}(h:cifits (rci w)=true):(cierr w == 0)=true:=by rw [ok_e h];rfl
theorem is_3{w:Ci}(h:cifits (rci w)=false):decide (cicut w=rzCi)=true:=by unfold cicut;rw [if_neg (by rw [h];decide),decide_eq_true rfl]
theorem is_4{w:Ci}(h:cifits (rci w)=false):(cierr w == 4)=true:=by unfold cierr;rw [if_neg (by rw [h];decide)];rfl
theorem isk_n{k:Int}(h:(k == 0)=false):(k != 0)=true:=by unfold bne;rw [h];rfl
theorem is_e{e k:Int}(h:e=k):(e == k)=true:=by rw [h];exact beq_self_eq_true k
theorem one_div(x:Rat):(1:Rat)/x=x⁻¹:=by rw [Rat.div_def,Rat.one_mul]
theorem inv_neg'(k:Rat):(-k)⁻¹=(-1:Rat)/k:=by
 rw [Rat.div_def]
 by_cases h:k=0
 ·subst h;decide +kernel
 ·have h2:-k≠0:=neg_ne h
  have e1:=Rat.mul_inv_cancel k h
  have e2:=Rat.mul_inv_cancel (-k) h2
  generalize (-k)⁻¹=a at *
  generalize k⁻¹=b at *
  have:a=a*(k*b):=by rw [e1,Rat.mul_one]
  rw [this]
  grind
theorem rd_ro(z:Cx)(x:Rat):Ci.mk ((1:Rat)/x) (z.scale ((1:Rat)/x)) ((((z.scale ((1:Rat)/x)).norm)-(1:Rat))/((1:Rat)/x))=roD z x:=by
 rw [one_div,Rat.div_def _ x⁻¹,Rat.inv_inv];unfold roD;rw [d11]
theorem rd_hf(n z:Cx):Value.tuple #[ciV (Ci.mk (0:Rat) (n.scale ((-1:Rat)/rootQ n.norm)) (((2:Rat)*(n.conj.mul z).re)*((-1:Rat)/rootQ n.norm))),.bool true]=.tuple #[ciV (hfD n z),.bool true]:=by
 have e:Ci.mk (0:Rat) (n.scale ((-1:Rat)/rootQ n.norm)) (((2:Rat)*(n.conj.mul z).re)*((-1:Rat)/rootQ n.norm))=hfD n z:=by
  unfold hfD Ci.times
  rw [inv_neg', Rat.zero_mul]
  congr 2
  grind
 rw [e]
theorem of_y1(k:Rat):(k*Rat.divInt (-(1:Int)) (1:Int))⁻¹=(-1:Rat)/k:=by
 rw [show Rat.divInt (-(1:Int)) (1:Int)=(-1:Rat) by decide,show k*(-1:Rat)=-k by grind];exact inv_neg' k
theorem of_ym(k:Rat):(k*Rat.divInt (-(-1:Int)) (1:Int))⁻¹=(1:Rat)/k:=by
 rw [show Rat.divInt (-(-1:Int)) (1:Int)=(1:Rat) by decide,Rat.mul_one,one_div]
theorem rd_of1(c:Ci):Ci.mk (c.a*((-1:Rat)/rootQ c.pow)) (c.b.conj.neg.scale ((-1:Rat)/rootQ c.pow)) (c.c*((-1:Rat)/rootQ c.pow))=ofD c 1:=by
 unfold ofD Ci.times;rw [of_y1]
theorem rd_ofm(c:Ci):Ci.mk (c.a*((-(-1):Rat)/rootQ c.pow)) (c.b.conj.neg.scale ((-(-1):Rat)/rootQ c.pow)) (c.c*((-(-1):Rat)/rootQ c.pow))=ofD c (-1):=by
 unfold ofD Ci.times;rw [of_ym,Rat.neg_neg]
theorem tupT{x y:Ci}(h:x=y):Value.tuple #[ciV x,.bool true]=.tuple #[ciV y,.bool true]:=by rw [h]
theorem rec_ne{x:Rat}(h:x≠0):(1:Rat)/x≠0:=by
 rw [one_div];intro e;apply h;rw [← Rat.inv_inv x,e];decide +kernel
end Go.Proofs.YtcboejgklgnifaaGreat
namespace Go.Proofs.YtcboejgklgnifaaGreat
open Go.RowKit Rgn Eng
variable {S:Nat→Prop} {W:World}
theorem rdToY(w:Ci)(p0:cifits (rci w)=true):Calls Tryz.prog 140 #[ciV w] W (RetV (.tuple #[ciV w,.int .i64 0]) W):=by
 refine Run.goP (S:=Z0) (Pack.nil.k (ciV w) (ciC w).toList (.s (.agg (ks 0 16)))) Tryz.func140 rfl ?_
 refine Run.cV [.bool (cifits (rci w))] kb (fun _ _ _ H=>rdFits (rci w)) ?_
 refine Run.kn p0 ?_
 exact Run.rV rfl
theorem rdToN(w:Ci)(p0:cifits (rci w)=false):Calls Tryz.prog 140 #[ciV w] W (RetV (.tuple #[rciV rzCi,.int .i64 4]) W):=by
 refine Run.goP (S:=Z0) (Pack.nil.k (ciV w) (ciC w).toList (.s (.agg (ks 0 16)))) Tryz.func140 rfl ?_
 refine Run.cV [.bool (cifits (rci w))] kb (fun _ _ _ H=>rdFits (rci w)) ?_
 refine Run.kn p0 ?_
 exact Run.rV rfl
theorem isC1(w:Ci)(p0:cifits (rci w)=true):Calls Tryz.prog 47 #[rciV (cicut w),.int .i64 (cierr w),ciV w,.int .i64 0] W (RetV (.bool true) W):=by
 refine Run.goP (S:=Z0) ((((Pack.nil.k (rciV (cicut w)) (rciC (cicut w)).toList (.s (.agg (ks 0 16)))).k (.int .i64 (cierr w)) [.int .i64 (cierr w)] kb).k (ciV w) (ciC w).toList (.s (.agg (ks 0 16)))).k (.int .i64 0) [] (.s (.o (.c (.int .i64 0))))) Tryz.func47 rfl ?_
 refine Run.cV (ciC w).toList (.tup [.agg (ks 0 16),.o (.c (.int .i64 0))]) (fun _ _ _ H=>rdToY w p0) ?_
 refine Run.bi [] (cb true) (fun _ _ _ o1 o2 _ ho hx hy=>ex_eql_dk (r:=cicut w) (q:=(rci w)) o1 o2 ho hx hy (is_1 p0)) ?_
 refine Run.cV [.int .i64 (cierr w)] kb (fun _ _ _ H=>l20num (cierr w)) ?_
 refine Run.ic (cierr w) 0 ((cierr w) == 0) ?_
 exact Run.rV ((congrArg Value.bool (is_2 p0)))
theorem isC2(w:Ci)(p0:cifits (rci w)=false):Calls Tryz.prog 47 #[rciV (cicut w),.int .i64 (cierr w),ciV w,.int .i64 0] W (RetV (.bool true) W):=by
 refine Run.goP (S:=Z0) ((((Pack.nil.k (rciV (cicut w)) (rciC (cicut w)).toList (.s (.agg (ks 0 16)))).k (.int .i64 (cierr w)) [.int .i64 (cierr w)] kb).k (ciV w) (ciC w).toList (.s (.agg (ks 0 16)))).k (.int .i64 0) [] (.s (.o (.c (.int .i64 0))))) Tryz.func47 rfl ?_
 refine Run.cV (rciC rzCi).toList (.tup [.agg (ks 0 16),.o (.c (.int .i64 4))]) (fun _ _ _ H=>rdToN w p0) ?_
 refine Run.bi [] (cb true) (fun _ _ _ o1 o2 _ ho hx hy=>ex_eql_dk (r:=cicut w) (q:=rzCi) o1 o2 ho hx hy (is_3 p0)) ?_
 refine Run.cV [.int .i64 (cierr w)] kb (fun _ _ _ H=>l20num (cierr w)) ?_
 refine Run.ic (cierr w) 4 ((cierr w) == 4) ?_
 exact Run.rV ((congrArg Value.bool (is_4 p0)))
theorem isN(d:RCi)(e:Int)(w:RCi)(k:Int)(p0:(k == 0)=false)(p1:d=rzCi)(p2:e=k):Calls Tryz.prog 47 #[rciV d,.int .i64 e,rciV w,.int .i64 k] W (RetV (.bool true) W):=by
 refine Run.goP (S:=Z0) ((((Pack.nil.k (rciV d) (rciC d).toList (.s (.agg (ks 0 16)))).k (.int .i64 e) [.int .i64 e] kb).k (rciV w) (rciC w).toList (.s (.agg (ks 0 16)))).k (.int .i64 k) [.int .i64 k] kb) Tryz.func47 rfl ?_
 refine Run.ic k 0 (k == 0) ?_
 refine Run.kn p0 ?_
 refine Run.ic k 0 (k != 0) ?_
 refine Run.kn (isk_n p0) ?_
 refine Run.bi [] (cb true) (fun _ _ _ o1 o2 _ ho hx hy=>ex_eql_dk (r:=d) (q:=rzCi) o1 o2 ho hx hy (decide_eq_true p1)) ?_
 refine Run.cV [.int .i64 e] kb (fun _ _ _ H=>l20num e) ?_
 refine Run.ic e k (e == k) ?_
 exact Run.rV ((congrArg Value.bool (is_e p2)))
theorem rdRo(z:Cx)(x:Rat)(p0:gfits (rg z)=true)(p1:fits (rf x)=true)(p2:(x.num.sign == 0)=false):Calls Tryz.prog 46 #[gV z,fV x] W (RetV (ciV (roD z x)) W):=by
 have f0:=gfits_ht2 p0
 have f1:=fits_ht_le p1
 have f3:=hc_scale z ((1:Rat)/x)
 have o1:ht (1:Rat)=2:=by decide
 have o2:ht (-1:Rat)=2:=by decide
 have o3:ht (2:Rat)=3:=by decide
 have o4:=ht_zero
 have o5:ht (-(-1):Rat)=2:=by decide
 have k0:=ht_div (1:Rat) x
 have k1:=hc_norm (z.scale ((1:Rat)/x))
 have k2:=ht_sub ((z.scale ((1:Rat)/x)).norm) (1:Rat)
 have k3:=ht_div (((z.scale ((1:Rat)/x)).norm)-(1:Rat)) ((1:Rat)/x)
 refine Run.goP (S:=Z0) ((Pack.nil.k (gV z) (gC z).toList (.s (.agg (ks 0 8)))).k (fV x) (fC x).toList (.s (.agg (ks 0 4)))) Tryz.func46 rfl ?_
 refine Run.dr ?_
 refine RunD.cV (fC (1:Rat)).toList (.s (.agg (ks 0 4))) (fun _ _ _ H=>fInt 1 (by decide) (by decide)) ?_
 refine RunD.cV (fC ((1:Rat)/x)).toList (.s (.agg (ks 0 4))) (fun _ _ _ H=>fOver (1:Rat) x (by omega) (by exact sg_ne p2)) ?_
 refine RunD.en ?_
 refine Run.cV (gC (z.scale ((1:Rat)/x))).toList (.s (.agg (ks 0 8))) (fun _ _ _ H=>rdSc z ((1:Rat)/x) (by omega)) ?_
 refine Run.dr ?_
 refine RunD.cV (fC ((z.scale ((1:Rat)/x)).norm)).toList (.s (.agg (ks 0 4))) (fun _ _ _ H=>cNorm (z.scale ((1:Rat)/x)) (by omega)) ?_
 refine RunD.cV (fC (1:Rat)).toList (.s (.agg (ks 0 4))) (fun _ _ _ H=>fInt 1 (by decide) (by decide)) ?_
 refine RunD.cV (fC (((z.scale ((1:Rat)/x)).norm)-(1:Rat))).toList (.s (.agg (ks 0 4))) (fun _ _ _ H=>fMinus ((z.scale ((1:Rat)/x)).norm) (1:Rat) (by omega)) ?_
 refine RunD.cV (fC ((((z.scale ((1:Rat)/x)).norm)-(1:Rat))/((1:Rat)/x))).toList (.s (.agg (ks 0 4))) (fun _ _ _ H=>fOver (((z.scale ((1:Rat)/x)).norm)-(1:Rat)) ((1:Rat)/x) (by omega) (by exact rec_ne (sg_ne p2))) ?_
 refine RunD.en ?_
 exact Run.rV ((congrArg ciV (rd_ro z x)))
theorem rdHfY(n z:Cx)(p0:gfits (rg n)=true)(p1:gfits (rg z)=true)(p2:n.zero=false)(p3:isSq n.norm=true):Calls Tryz.prog 49 #[gV n,gV z] W (RetV (.tuple #[ciV (hfD n z),.bool true]) W):=by
 have f0:=gfits_ht2 p0
 have f1:=gfits_ht2 p1
 have f2:=hc_norm n
 have o1:ht (1:Rat)=2:=by decide
 have o2:ht (-1:Rat)=2:=by decide
 have o3:ht (2:Rat)=3:=by decide
 have o4:=ht_zero
 have o5:ht (-(-1):Rat)=2:=by decide
 have f3:=ht_rootQ n.norm
 have k0:=hc_norm n
 have k1:=ht_div ((-1):Rat) (rootQ n.norm)
 have k2:=hc_conj n
 have k3:=hc_mul n.conj z
 have k4:=ht_mul (2:Rat) ((n.conj.mul z).re)
 have k5:=ht_mul ((2:Rat)*((n.conj.mul z).re)) (((-1):Rat)/(rootQ n.norm))
 refine Run.goP (S:=Z0) ((Pack.nil.k (gV n) (gC n).toList (.s (.agg (ks 0 8)))).k (gV z) (gC z).toList (.s (.agg (ks 0 8)))) Tryz.func49 rfl ?_
 refine Run.cV (fC n.norm).toList (.s (.agg (ks 0 4))) (fun _ _ _ H=>cNorm n (by omega)) ?_
 refine Run.cV (fC (rootQ n.norm)).toList (.tup [.agg (ks 0 4),.o (.c (.bool true))]) (fun _ _ _ H=>fSqrtY n.norm (by omega) (by exact norm_nn n) p3) ?_
 refine Run.dr ?_
 refine RunD.cV (fC ((-1):Rat)).toList (.s (.agg (ks 0 4))) (fun _ _ _ H=>fInt (-1) (by decide) (by decide)) ?_
 refine RunD.cV (fC (((-1):Rat)/(rootQ n.norm))).toList (.s (.agg (ks 0 4))) (fun _ _ _ H=>fOver ((-1):Rat) (rootQ n.norm) (by omega) (by exact rootQ_ne p3 (norm_ne p2))) ?_
 refine RunD.en ?_
 refine Run.dr ?_
 refine RunD.cV (gC n.conj).toList (.s (.agg (ks 0 8))) (fun _ _ _ H=>cConj n) ?_
 refine RunD.cV (gC (n.conj.mul z)).toList (.s (.agg (ks 0 8))) (fun _ _ _ H=>cTimes n.conj z (by omega)) ?_
 refine RunD.en ?_
 refine Run.dr ?_
 refine RunD.cV (fC (0:Rat)).toList (.s (.agg (ks 0 4))) (fun _ _ _ H=>fInt 0 (by decide) (by decide)) ?_
 refine RunD.cV (gC (n.scale (((-1):Rat)/(rootQ n.norm)))).toList (.s (.agg (ks 0 8))) (fun _ _ _ H=>rdSc n (((-1):Rat)/(rootQ n.norm)) (by omega)) ?_
 refine RunD.cV (fC (2:Rat)).toList (.s (.agg (ks 0 4))) (fun _ _ _ H=>fInt 2 (by decide) (by decide)) ?_
 refine RunD.cV (fC ((2:Rat)*((n.conj.mul z).re))).toList (.s (.agg (ks 0 4))) (fun _ _ _ H=>fTimes (2:Rat) ((n.conj.mul z).re) (by omega)) ?_
 refine RunD.cV (fC (((2:Rat)*((n.conj.mul z).re))*(((-1):Rat)/(rootQ n.norm)))).toList (.s (.agg (ks 0 4))) (fun _ _ _ H=>fTimes ((2:Rat)*((n.conj.mul z).re)) (((-1):Rat)/(rootQ n.norm)) (by omega)) ?_
 refine RunD.en ?_
 exact Run.rV ((rd_hf n z))
theorem rdHfN(n z:Cx)(p0:gfits (rg n)=true)(p1:gfits (rg z)=true)(p2:n.zero=false)(p3:isSq n.norm=false):Calls Tryz.prog 49 #[gV n,gV z] W (RetV (.tuple #[rciV rzCi,.bool false]) W):=by
 have f0:=gfits_ht2 p0
 have f1:=gfits_ht2 p1
 have f2:=hc_norm n
 have k0:=hc_norm n
 refine Run.goP (S:=Z0) ((Pack.nil.k (gV n) (gC n).toList (.s (.agg (ks 0 8)))).k (gV z) (gC z).toList (.s (.agg (ks 0 8)))) Tryz.func49 rfl ?_
 refine Run.cV (fC n.norm).toList (.s (.agg (ks 0 4))) (fun _ _ _ H=>cNorm n (by omega)) ?_
 refine Run.cV (rfC rz.re).toList (.tup [.agg (ks 0 4),.o (.c (.bool false))]) (fun _ _ _ H=>fSqrtN n.norm (by omega) (by exact norm_nn n) p3) ?_
 exact Run.rV rfl
theorem rdOfY1(c:Ci)(p0:ciOk (rci c)=true)(p1:isSq c.pow=true):Calls Tryz.prog 51 #[ciV c,.int .i64 1] W (RetV (.tuple #[ciV (ofD c (1)),.bool true]) W):=by
 have f0:=cifits_ht (ciOk_c p0).1
 have f1:=pow_ht c
 unfold Ci.hh Cx.hh at f1
 have f2:=ht_rootQ c.pow
 have o1:ht (1:Rat)=2:=by decide
 have o2:ht (-1:Rat)=2:=by decide
 have o3:ht (2:Rat)=3:=by decide
 have o4:=ht_zero
 have o5:ht (-(-1):Rat)=2:=by decide
 have f6:=hc_conj c.b
 have k0:=ht_div ((-1):Rat) (rootQ c.pow)
 have k1:=ht_mul c.a (((-1):Rat)/(rootQ c.pow))
 have k2:=hc_conj c.b
 have k3:=hc_neg c.b.conj
 have k4:=ht_mul c.c (((-1):Rat)/(rootQ c.pow))
 refine Run.goP (S:=Z0) ((Pack.nil.k (ciV c) (ciC c).toList (.s (.agg (ks 0 16)))).k (.int .i64 1) [] (.s (.o (.c (.int .i64 1))))) Tryz.func51 rfl ?_
 refine Run.cV (fC c.pow).toList (.s (.agg (ks 0 4))) (fun _ _ _ H=>c11Pow c (by omega)) ?_
 refine Run.cV (fC (rootQ c.pow)).toList (.tup [.agg (ks 0 4),.o (.c (.bool true))]) (fun _ _ _ H=>fSqrtY c.pow (by omega) (by exact pow_nn p0) p1) ?_
 refine Run.dr ?_
 refine RunD.un 1 (by decide) ?_
 refine RunD.cV (fC ((-1):Rat)).toList (.s (.agg (ks 0 4))) (fun _ _ _ H=>fInt (-1) (by decide) (by decide)) ?_
 refine RunD.cV (fC (((-1):Rat)/(rootQ c.pow))).toList (.s (.agg (ks 0 4))) (fun _ _ _ H=>fOver ((-1):Rat) (rootQ c.pow) (by omega) (by exact rootQ_ne p1 (pow_ne p0))) ?_
 refine RunD.en ?_
 refine Run.dr ?_
 refine RunD.cV (fC (c.a*(((-1):Rat)/(rootQ c.pow)))).toList (.s (.agg (ks 0 4))) (fun _ _ _ H=>fTimes c.a (((-1):Rat)/(rootQ c.pow)) (by omega)) ?_
 refine RunD.cV (gC c.b.conj).toList (.s (.agg (ks 0 8))) (fun _ _ _ H=>cConj c.b) ?_
 refine RunD.cV (gC c.b.conj.neg).toList (.s (.agg (ks 0 8))) (fun _ _ _ H=>cNeg c.b.conj) ?_
 refine RunD.cV (gC (c.b.conj.neg.scale (((-1):Rat)/(rootQ c.pow)))).toList (.s (.agg (ks 0 8))) (fun _ _ _ H=>rdSc c.b.conj.neg (((-1):Rat)/(rootQ c.pow)) (by omega)) ?_
 refine RunD.cV (fC (c.c*(((-1):Rat)/(rootQ c.pow)))).toList (.s (.agg (ks 0 4))) (fun _ _ _ H=>fTimes c.c (((-1):Rat)/(rootQ c.pow)) (by omega)) ?_
 refine RunD.en ?_
 exact Run.rV ((tupT (rd_of1 c)))
theorem rdOfYm(c:Ci)(p0:ciOk (rci c)=true)(p1:isSq c.pow=true):Calls Tryz.prog 51 #[ciV c,.int .i64 (-1)] W (RetV (.tuple #[ciV (ofD c (-1)),.bool true]) W):=by
 have f0:=cifits_ht (ciOk_c p0).1
 have f1:=pow_ht c
 unfold Ci.hh Cx.hh at f1
 have f2:=ht_rootQ c.pow
 have o1:ht (1:Rat)=2:=by decide
 have o2:ht (-1:Rat)=2:=by decide
 have o3:ht (2:Rat)=3:=by decide
 have o4:=ht_zero
 have o5:ht (-(-1):Rat)=2:=by decide
 have f6:=hc_conj c.b
 have k0:=ht_div ((-(-1)):Rat) (rootQ c.pow)
 have k1:=ht_mul c.a (((-(-1)):Rat)/(rootQ c.pow))
 have k2:=hc_conj c.b
 have k3:=hc_neg c.b.conj
 have k4:=ht_mul c.c (((-(-1)):Rat)/(rootQ c.pow))
 refine Run.goP (S:=Z0) ((Pack.nil.k (ciV c) (ciC c).toList (.s (.agg (ks 0 16)))).k (.int .i64 (-1)) [] (.s (.o (.c (.int .i64 (-1)))))) Tryz.func51 rfl ?_
 refine Run.cV (fC c.pow).toList (.s (.agg (ks 0 4))) (fun _ _ _ H=>c11Pow c (by omega)) ?_
 refine Run.cV (fC (rootQ c.pow)).toList (.tup [.agg (ks 0 4),.o (.c (.bool true))]) (fun _ _ _ H=>fSqrtY c.pow (by omega) (by exact pow_nn p0) p1) ?_
 refine Run.dr ?_
 refine RunD.un (-1) (by decide) ?_
 refine RunD.cV (fC ((-(-1)):Rat)).toList (.s (.agg (ks 0 4))) (fun _ _ _ H=>fInt (-(-1)) (by omega) (by omega)) ?_
 refine RunD.cV (fC (((-(-1)):Rat)/(rootQ c.pow))).toList (.s (.agg (ks 0 4))) (fun _ _ _ H=>fOver ((-(-1)):Rat) (rootQ c.pow) (by omega) (by exact rootQ_ne p1 (pow_ne p0))) ?_
 refine RunD.en ?_
 refine Run.dr ?_
 refine RunD.cV (fC (c.a*(((-(-1)):Rat)/(rootQ c.pow)))).toList (.s (.agg (ks 0 4))) (fun _ _ _ H=>fTimes c.a (((-(-1)):Rat)/(rootQ c.pow)) (by omega)) ?_
 refine RunD.cV (gC c.b.conj).toList (.s (.agg (ks 0 8))) (fun _ _ _ H=>cConj c.b) ?_
 refine RunD.cV (gC c.b.conj.neg).toList (.s (.agg (ks 0 8))) (fun _ _ _ H=>cNeg c.b.conj) ?_
 refine RunD.cV (gC (c.b.conj.neg.scale (((-(-1)):Rat)/(rootQ c.pow)))).toList (.s (.agg (ks 0 8))) (fun _ _ _ H=>rdSc c.b.conj.neg (((-(-1)):Rat)/(rootQ c.pow)) (by omega)) ?_
 refine RunD.cV (fC (c.c*(((-(-1)):Rat)/(rootQ c.pow)))).toList (.s (.agg (ks 0 4))) (fun _ _ _ H=>fTimes c.c (((-(-1)):Rat)/(rootQ c.pow)) (by omega)) ?_
 refine RunD.en ?_
 exact Run.rV ((tupT (rd_ofm c)))
theorem rdOfN1(c:Ci)(p0:ciOk (rci c)=true)(p1:isSq c.pow=false):Calls Tryz.prog 51 #[ciV c,.int .i64 1] W (RetV (.tuple #[rciV rzCi,.bool false]) W):=by
 have f0:=cifits_ht (ciOk_c p0).1
 have f1:=pow_ht c
 unfold Ci.hh Cx.hh at f1
 refine Run.goP (S:=Z0) ((Pack.nil.k (ciV c) (ciC c).toList (.s (.agg (ks 0 16)))).k (.int .i64 1) [] (.s (.o (.c (.int .i64 1))))) Tryz.func51 rfl ?_
 refine Run.cV (fC c.pow).toList (.s (.agg (ks 0 4))) (fun _ _ _ H=>c11Pow c (by omega)) ?_
 refine Run.cV (rfC rz.re).toList (.tup [.agg (ks 0 4),.o (.c (.bool false))]) (fun _ _ _ H=>fSqrtN c.pow (by omega) (by exact pow_nn p0) p1) ?_
 exact Run.rV rfl
theorem rdOfNm(c:Ci)(p0:ciOk (rci c)=true)(p1:isSq c.pow=false):Calls Tryz.prog 51 #[ciV c,.int .i64 (-1)] W (RetV (.tuple #[rciV rzCi,.bool false]) W):=by
 have f0:=cifits_ht (ciOk_c p0).1
 have f1:=pow_ht c
 unfold Ci.hh Cx.hh at f1
 refine Run.goP (S:=Z0) ((Pack.nil.k (ciV c) (ciC c).toList (.s (.agg (ks 0 16)))).k (.int .i64 (-1)) [] (.s (.o (.c (.int .i64 (-1)))))) Tryz.func51 rfl ?_
 refine Run.cV (fC c.pow).toList (.s (.agg (ks 0 4))) (fun _ _ _ H=>c11Pow c (by omega)) ?_
 refine Run.cV (rfC rz.re).toList (.tup [.agg (ks 0 4),.o (.c (.bool false))]) (fun _ _ _ H=>fSqrtN c.pow (by omega) (by exact pow_nn p0) p1) ?_
 exact Run.rV rfl
theorem isC(w:Ci):Calls Tryz.prog 47 #[rciV (cicut w),.int .i64 (cierr w),ciV w,.int .i64 0] W (RetV (.bool true) W):=by
 cases h:cifits (rci w) with
 | true=>exact isC1 w h
 | false=>exact isC2 w h
noncomputable def cvm(r:RCi):Ci:=⟨valM r.a,gvm r.b,valM r.c⟩
theorem cvm_rci{c:Ci}(h:ciOk (rci c)=true):cvm (rci c)=c:=by
 have h1:=(ciOk_c h).1
 have h2:=(and_tt h1)
 have h3:=(and_tt h2.1)
 show Ci.mk (valM (rf c.a)) (gvm (rg c.b)) (valM (rf c.c))=c
 rw [valM_rf (by rw [fmay_rf];exact h3.1),gvm_rg (by rw [gmay_rg];exact h3.2),valM_rf (by rw [fmay_rf];exact h2.2)]
noncomputable def roR(z:RG)(x:RF):RCi:=if (gmay z&&fmay x)=true then (if ((valM x).num.sign == 0)=true then rzCi else cicut (roD (gvm z) (valM x))) else rzCi
noncomputable def roE(z:RG)(x:RF):Int:=if (gmay z&&fmay x)=true then (if ((valM x).num.sign == 0)=true then 5 else cierr (roD (gvm z) (valM x))) else 2
theorem roA(z:RG)(x:RF):Calls Tryz.prog 40 #[rgV z,rfV x] W (RetV (.tuple #[rciV (roR z x),.int .i64 (roE z x)]) W):=by
 unfold roR roE
 cases h:gmay z with
 | false =>
  cases h2:fmay x with
  | true=>simpa using roN1 z x h h2
  | false=>simpa using roN3 z x h h2
 | true =>
  cases h2:fmay x with
  | false=>simpa using roN2 z x h h2
  | true =>
   obtain⟨c,rfl⟩:=gmay_ex h
   obtain⟨q,rfl⟩:=fmay_ex h2
   rw [gvm_rg h,valM_rf h2]
   rw [gmay_rg] at h
   rw [fmay_rf] at h2
   cases h3:(q.num.sign == 0) with
   | true=>exact roZ c q h h2 h3
   | false=>exact roY c q h h2 h3
noncomputable def hfR(n z:RG):RCi:=if (gmay n&&gmay z)=true then (if (gvm n).zero=true then rzCi else if isSq (gvm n).norm=true then cicut (hfD (gvm n) (gvm z)) else rzCi) else rzCi
noncomputable def hfE(n z:RG):Int:=if (gmay n&&gmay z)=true then (if (gvm n).zero=true then 5 else if isSq (gvm n).norm=true then cierr (hfD (gvm n) (gvm z)) else 7) else 2
theorem hfA(n z:RG):Calls Tryz.prog 41 #[rgV n,rgV z] W (RetV (.tuple #[rciV (hfR n z),.int .i64 (hfE n z)]) W):=by
 unfold hfR hfE
 cases h:gmay n with
 | false=>simpa using hfN1 n z h
 | true =>
  cases h2:gmay z with
  | false=>simpa using hfN2 n z h h2
  | true =>
   obtain⟨c,rfl⟩:=gmay_ex h
   obtain⟨d,rfl⟩:=gmay_ex h2
   rw [gvm_rg h,gvm_rg h2]
   rw [gmay_rg] at h h2
   cases h3:c.zero with
   | true=>exact hfZ c d h h2 h3
   | false =>
    cases h4:isSq c.norm with
    | true=>exact hfY c d h h2 h3 h4
    | false=>exact hfS c d h h2 h3 h4
noncomputable def ofR(c:RCi)(s:Int):RCi:=if ciOk c=true then (if s=1∨s=-1 then (if isSq (cvm c).pow=true then cicut (ofD (cvm c) s) else rzCi) else rzCi) else rzCi
noncomputable def ofE(c:RCi)(s:Int):Int:=if ciOk c=true then (if s=1∨s=-1 then (if isSq (cvm c).pow=true then cierr (ofD (cvm c) s) else 7) else 2) else 2
theorem ofA(c:RCi)(s:Int):Calls Tryz.prog 42 #[rciV c,.int .i64 s] W (RetV (.tuple #[rciV (ofR c s),.int .i64 (ofE c s)]) W):=by
 unfold ofR ofE
 cases h:ciOk c with
 | false=>simpa using ofN1 c s h
 | true =>
  obtain⟨d,rfl,-⟩:=ciOk_ex h
  rw [cvm_rci h]
  by_cases h1:s=1
  ·subst h1
   cases h4:isSq d.pow with
   | true=>exact ofY1 d h h4
   | false=>exact ofS1 d h h4
  ·by_cases h2:s=-1
   ·subst h2
    cases h4:isSq d.pow with
    | true=>exact ofYm d h h4
    | false=>exact ofSm d h h4
   ·have e:¬ (s=1∨s=-1):=fun e=>e.elim h1 h2
    rw [if_pos rfl,if_pos rfl,if_neg e,if_neg e]
    exact ofN2 d s h (bne_iff_ne.2 h1) (bne_iff_ne.2 h2)
theorem rdRoA(z:RG)(x:RF)(p0:gmay z=true)(p1:fmay x=true)(p2:((valM x).num.sign == 0)=false):Calls Tryz.prog 46 #[rgV z,rfV x] W (RetV (ciV (roD (gvm z) (valM x))) W):=by
 obtain⟨c,rfl⟩:=gmay_ex p0
 obtain⟨q,rfl⟩:=fmay_ex p1
 rw [valM_rf p1] at p2 ⊢
 rw [gvm_rg p0]
 rw [gmay_rg] at p0
 rw [fmay_rf] at p1
 exact rdRo c q p0 p1 p2
theorem rdHfA(n z:RG)(p0:gmay n=true)(p1:gmay z=true)(p2:(gvm n).zero=false)(p3:isSq (gvm n).norm=true):Calls Tryz.prog 49 #[rgV n,rgV z] W (RetV (.tuple #[ciV (hfD (gvm n) (gvm z)),.bool true]) W):=by
 obtain⟨c,rfl⟩:=gmay_ex p0
 obtain⟨d,rfl⟩:=gmay_ex p1
 rw [gvm_rg p0] at p2 p3 ⊢
 rw [gvm_rg p1]
 rw [gmay_rg] at p0 p1
 exact rdHfY c d p0 p1 p2 p3
theorem rdHfB(n z:RG)(p0:gmay n=true)(p1:gmay z=true)(p2:(gvm n).zero=false)(p3:isSq (gvm n).norm=false):Calls Tryz.prog 49 #[rgV n,rgV z] W (RetV (.tuple #[rciV rzCi,.bool false]) W):=by
 obtain⟨c,rfl⟩:=gmay_ex p0
 obtain⟨d,rfl⟩:=gmay_ex p1
 rw [gvm_rg p0] at p2 p3
 rw [gmay_rg] at p0 p1
 exact rdHfN c d p0 p1 p2 p3
theorem fSignA(x:RF)(p0:fmay x=true):Calls Tryz.prog 45 #[rfV x] W (RetV (.int .i64 (valM x).num.sign) W):=by
 obtain⟨q,rfl⟩:=fmay_ex p0
 rw [valM_rf p0];exact fSign q
theorem cZeroA(z:RG)(p0:gmay z=true):Calls Tryz.prog 48 #[rgV z] W (RetV (.bool (gvm z).zero) W):=by
 obtain⟨c,rfl⟩:=gmay_ex p0
 rw [gvm_rg p0];exact cZero c
theorem rdOfA(c:RCi)(s:Int)(p0:ciOk c=true)(p1:s=1∨s=-1)(p2:isSq (cvm c).pow=true):Calls Tryz.prog 51 #[rciV c,.int .i64 s] W (RetV (.tuple #[ciV (ofD (cvm c) s),.bool true]) W):=by
 obtain⟨d,rfl,-⟩:=ciOk_ex p0
 rw [cvm_rci p0] at p2 ⊢
 rcases p1 with rfl|rfl
 ·exact rdOfY1 d p0 p2
 ·exact rdOfYm d p0 p2
theorem rdOfB(c:RCi)(s:Int)(p0:ciOk c=true)(p1:s=1∨s=-1)(p2:isSq (cvm c).pow=false):Calls Tryz.prog 51 #[rciV c,.int .i64 s] W (RetV (.tuple #[rciV rzCi,.bool false]) W):=by
 obtain⟨d,rfl,-⟩:=ciOk_ex p0
 rw [cvm_rci p0] at p2
 rcases p1 with rfl|rfl
 ·exact rdOfN1 d p0 p2
 ·exact rdOfNm d p0 p2
end Go.Proofs.YtcboejgklgnifaaGreat
