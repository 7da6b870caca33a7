import Derived.Test.YtcpjdjnaipbieaaGreatP05
set_option linter.unusedVariables false
set_option linter.unusedSimpArgs false
namespace Go.Proofs.YtcpjdjnaipbieaaGreat
open Go.RowKit Rgn
def Mb.isB (m:Mb):Cx:=if m.c.zero=true then (if ((Cx.ofInt (1:Int) (0:Int)).sub m.a.conj).zero=true then Cx.ofInt (0:Int) (1:Int) else (Cx.ofInt (1:Int) (0:Int)).sub m.a.conj) else m.d
def Mb.isC (m:Mb):Cx:=if m.c.zero=true then (m.isB.mul m.b).neg else m.b.neg
def Mb.isA (m:Mb):Rat:=if m.c.zero=true then ((0:Int):Rat) else ((1:Int):Rat)
def Mb.isK (m:Mb):Ci:=⟨m.isA,m.isB,m.isC.re⟩
def Mb.isOk (m:Mb):Bool:=m.t&&(m.isC.im.num.sign == 0)&&m.isK.pos&&decide (m.isK.nrm.over.nrm=m)
def Mb.isR (m:Mb):RCi:=if m.isOk=true then cicut m.isK.nrm else rzCi
def Mb.isE (m:Mb):Int:=if m.isOk=true then cierr m.isK.nrm else 7
theorem cmul_comm (x y:Cx):x.mul y=y.mul x:=Cx.ext' (by show x.re*y.re-x.im*y.im=y.re*x.re-y.im*x.im;grind) (by show x.re*y.im+x.im*y.re=y.re*x.im+y.im*x.re;grind)
theorem cmul_one (x:Cx):x.mul (Cx.ofInt (1:Int) (0:Int))=x:=by
 have c1:((1:Int):Rat)=1:=rfl
 have c0:((0:Int):Rat)=0:=rfl
 exact Cx.ext' (by show x.re*((1:Int):Rat)-x.im*((0:Int):Rat)=x.re;rw [c1,c0];grind) (by show x.re*((0:Int):Rat)+x.im*((1:Int):Rat)=x.im;rw [c1,c0];grind)
theorem is_w0 {m:Mb} (h:m.c.zero=false):m.isK=⟨Rat.divInt (1:Int) (1:Int),m.d,(m.b.mul (Cx.ofInt (1:Int) (0:Int))).neg.re⟩∧m.isC.im=(m.b.mul (Cx.ofInt (1:Int) (0:Int))).neg.im:=by
 have h' : ¬ m.c.zero=true:=by rw [h];decide
 unfold Mb.isK Mb.isC Mb.isB Mb.isA
 rw [if_neg h', if_neg h', if_neg h', cmul_one,divInt_one]
 exact ⟨rfl,rfl⟩
theorem is_w1 {m:Mb} (h:m.c.zero=true) (h2:((Cx.ofInt (1:Int) (0:Int)).sub m.a.conj).zero=false):m.isK=⟨0,(Cx.ofInt (1:Int) (0:Int)).sub m.a.conj,(m.b.mul ((Cx.ofInt (1:Int) (0:Int)).sub m.a.conj)).neg.re⟩∧m.isC.im=(m.b.mul ((Cx.ofInt (1:Int) (0:Int)).sub m.a.conj)).neg.im:=by
 have h' : ¬ ((Cx.ofInt (1:Int) (0:Int)).sub m.a.conj).zero=true:=by rw [h2];decide
 have hB:m.isB=(Cx.ofInt (1:Int) (0:Int)).sub m.a.conj:=by unfold Mb.isB;rw [if_pos h,if_neg h']
 have hC:m.isC=(m.b.mul ((Cx.ofInt (1:Int) (0:Int)).sub m.a.conj)).neg:=by unfold Mb.isC;rw [if_pos h,hB,cmul_comm]
 unfold Mb.isK Mb.isA
 rw [if_pos h,hB,hC]
 exact ⟨rfl,rfl⟩
theorem is_w2 {m:Mb} (h:m.c.zero=true) (h2:((Cx.ofInt (1:Int) (0:Int)).sub m.a.conj).zero=true):m.isK=⟨0,Cx.ofInt (0:Int) (1:Int),(m.b.mul (Cx.ofInt (0:Int) (1:Int))).neg.re⟩∧m.isC.im=(m.b.mul (Cx.ofInt (0:Int) (1:Int))).neg.im:=by
 have hB:m.isB=Cx.ofInt (0:Int) (1:Int):=by unfold Mb.isB;rw [if_pos h,if_pos h2]
 have hC:m.isC=(m.b.mul (Cx.ofInt (0:Int) (1:Int))).neg:=by unfold Mb.isC;rw [if_pos h,hB,cmul_comm]
 unfold Mb.isK Mb.isA
 rw [if_pos h,hB,hC]
 exact ⟨rfl,rfl⟩
section
variable {m:Mb} {k:Ci} {q:Rat}
theorem is_n {m:Mb} (h:m.isOk=false):Value.tuple #[.agg zCi,.int .i64 7]=.tuple #[rciV m.isR,.int .i64 m.isE]:=by
 have h' : ¬ m.isOk=true:=by rw [h];decide
 unfold Mb.isR Mb.isE
 rw [if_neg h', if_neg h']
theorem ok_t (h:m.t=false):m.isOk=false:=by
 unfold Mb.isOk;rw [h];rfl
theorem ok_i (e:m.isK=k∧m.isC.im=q) (h:(q.num.sign != 0)=true):m.isOk=false:=by
 have:(m.isC.im.num.sign == 0)=false:=by rw [e.2];simpa using h
 unfold Mb.isOk;rw [this];simp
theorem ok_p (e:m.isK=k∧m.isC.im=q) (h:decide (k.pow.num.sign≤0)=true):m.isOk=false:=by
 have:m.isK.pos=false:=by unfold Ci.pos;rw [e.1,h];rfl
 unfold Mb.isOk;rw [this];simp
theorem mbcut_iff {x:Mb} (hm:mbOk (rmb m)=true):decide (mbcut x=rmb m)=decide (x=m):=by
 obtain ⟨hf,hz,_⟩:=mbOk_c hm
 unfold mbcut
 split
 ·exact rmb_dec x m
 ·rename_i hn
  rw [decide_eq_false (fun e:x=m=>hn (e ▸ hf)),decide_eq_false]
  intro e
  have h2:=congrArg (fun r:RMb=>gfits r.a) e
  have h3:=congrArg (fun r:RMb=>r.a.re.b.s) e
  have h4:(⟨#[]⟩:ByteArray)=bS (m.a.re.den:Int).natAbs:=h3
  have h5:=bS_empty (m.a.re.den:Int).natAbs
  rw [← h4] at h5
  have h6:=m.a.re.den_pos
  simp at h5
  omega
theorem ok_b (hm:mbOk (rmb m)=true) (e:m.isK=k∧m.isC.im=q) (h:(!decide (mbcut k.nrm.over.nrm=rmb m))=true):m.isOk=false:=by
 rw [mbcut_iff hm] at h
 have:decide (m.isK.nrm.over.nrm=m)=false:=by rw [e.1];simpa using h
 unfold Mb.isOk;rw [this];simp
theorem ok_y (hm:mbOk (rmb m)=true) (e:m.isK=k∧m.isC.im=q) (h1:m.t=true) (h2:(q.num.sign != 0)=false) (h3:decide (k.pow.num.sign≤0)=false) (h4:(!decide (mbcut k.nrm.over.nrm=rmb m))=false):m.isOk=true:=by
 rw [mbcut_iff hm] at h4
 unfold Mb.isOk Ci.pos
 rw [e.1,e.2,h3]
 simp at h2 h4
 simp [h1,h2,h4]
theorem is_y (e:m.isK=k∧m.isC.im=q) (h:m.isOk=true):Value.tuple #[rciV (cicut k.nrm),.int .i64 (cierr k.nrm)]=.tuple #[rciV m.isR,.int .i64 m.isE]:=by
 unfold Mb.isR Mb.isE
 rw [if_pos h,if_pos h,e.1]
end
theorem over_det (c:Ci):c.over.det=⟨-c.pow,0⟩:=by
 refine Cx.ext' ?_ ?_
 ·show (-c.b.re*c.b.re - - -c.b.im*c.b.im)-(-c.c*c.a-0*0)=-(c.b.re*c.b.re+c.b.im*c.b.im-c.a*c.c)
  grind
 ·show (-c.b.re*c.b.im+- -c.b.im*c.b.re)-(-c.c*0+0*c.a)=0
  grind
theorem over_piv {c:Ci} (h:c.pos=true):c.over.piv.zero=false:=by
 refine det_piv ?_
 rw [over_det]
 cases e:Cx.zero ⟨-c.pow,0⟩ with
 | false=>rfl
 | true =>
  have h1:-c.pow=0:=congrArg Cx.re (zero_iff.1 e)
  have h2:c.pow=0:=by grind
  have:=pos_le h
  rw [h2] at this
  exact absurd this (by decide)
theorem pow_nrm (c:Ci):c.nrm.pow=c.pow*(c.piv⁻¹*c.piv⁻¹):=by
 show (c.b.re*c.piv⁻¹)*(c.b.re*c.piv⁻¹)+(c.b.im*c.piv⁻¹)*(c.b.im*c.piv⁻¹)-(c.a*c.piv⁻¹)*(c.c*c.piv⁻¹)=(c.b.re*c.b.re+c.b.im*c.b.im-c.a*c.c)*(c.piv⁻¹*c.piv⁻¹)
 grind
theorem pos_iff {c:Ci}:c.pos=true↔0<c.pow:=by
 unfold Ci.pos
 rw [Bool.not_eq_true', decide_eq_false_iff_not]
 have h:=sign3 c.pow.num
 have h1:0≤c.pow.num↔0≤c.pow:=Rat.num_nonneg
 have h2:c.pow.num=0↔c.pow=0:=Rat.num_eq_zero
 have h3:0≤c.pow↔0<c.pow∨0=c.pow:=Rat.le_iff_lt_or_eq
 constructor
 ·intro hp
  have h4:0≤c.pow:=h1.1 (by omega)
  rcases h3.1 h4 with h5|h5
  ·exact h5
  ·have:=h2.2 h5.symm;omega
 ·intro hp
  have h4:0≤c.pow.num:=h1.2 (h3.2 (.inl hp))
  have h5:c.pow.num≠0:=fun e=>by
   have:=h2.1 e
   rw [this] at hp
   exact absurd hp (by decide)
  omega
theorem pos_nrm {c:Ci} (h:c.pos=true):c.nrm.pos=true:=by
 rw [pos_iff] at h ⊢
 rw [pow_nrm]
 have hp:=piv_ne (pos_flat (pos_iff.2 h))
 have hi:c.piv⁻¹≠0:=fun e=>hp (by rw [← Rat.inv_inv c.piv,e,Rat.inv_zero])
 refine Rat.mul_pos h ?_
 have h2:=sq_nonneg c.piv⁻¹
 rcases Rat.le_iff_lt_or_eq.1 h2 with h3|h3
 ·exact h3
 ·rcases Rat.mul_eq_zero.1 h3.symm with h4|h4<;>exact absurd h4 hi
theorem nrm_le {k:Ci} (h:ht k.a+ht k.b.re+ht k.b.im+ht k.c≤1000000):ht k.nrm.a+ht k.nrm.b.re+ht k.nrm.b.im+ht k.nrm.c≤5000000:=by
 have h1:=nrm_ht k
 have h2:=piv_ht k
 unfold Ci.hh Cx.hh at h2
 omega
theorem over_le {k:Ci} (h:ht k.a+ht k.b.re+ht k.b.im+ht k.c≤10000000):ht k.over.a.re+ht k.over.a.im+ht k.over.b.re+ht k.over.b.im+ht k.over.c.re+ht k.over.c.im+ht k.over.d.re+ht k.over.d.im≤67108864:=by
 have h1:=ht_neg k.b.re
 have h2:=ht_neg (-k.b.im)
 have h3:=ht_neg k.b.im
 have h4:=ht_neg k.c
 have h5:=ht_zero
 show ht (-k.b.re)+ht (- -k.b.im)+ht (-k.c)+ht (0:Rat)+ht k.a+ht (0:Rat)+ht k.b.re+ht k.b.im≤_
 omega
theorem pos_of {k:Ci} (h:decide (k.pow.num.sign≤0)=false):k.pos=true:=by unfold Ci.pos;rw [h];rfl
end Go.Proofs.YtcpjdjnaipbieaaGreat
namespace Go.Proofs.YtcpjdjnaipbieaaGreat
open Go.RowKit Rgn
def isCb (r:RCi) (e:Int) (q:RCi):Bool:=if cifits q=true then decide (r=q)&&(e == 0) else decide (r=rzCi)&&(e == 4)
section
variable {r q:RCi} {e:Int}
theorem isC_1 (h:(!cifits q)=true) (h2:decide (r=rzCi)=true):Value.bool (e == 4)=.bool (isCb r e q):=by
 unfold isCb;rw [if_neg (by simpa using h),h2];simp
theorem isC_2 (h:(!cifits q)=true) (h2:decide (r=rzCi)=false):Value.bool false=.bool (isCb r e q):=by
 unfold isCb;rw [if_neg (by simpa using h),h2];simp
theorem isC_3 (h:(!cifits q)=false) (h2:decide (r=q)=true):Value.bool (e == 0)=.bool (isCb r e q):=by
 unfold isCb;rw [if_pos (by simpa using h),h2];simp
theorem isC_4 (h:(!cifits q)=false) (h2:decide (r=q)=false):Value.bool false=.bool (isCb r e q):=by
 unfold isCb;rw [if_pos (by simpa using h),h2];simp
end
theorem isC_ok (k:Ci):isCb (cicut k) (cierr k) (rci k)=true:=by
 unfold isCb cicut cierr
 by_cases h:cifits (rci k)=true
 ·rw [if_pos h,if_pos h,if_pos h];simp
 ·rw [if_neg h,if_neg h,if_neg h];simp
def lg1 (r:RW):Bool:=decide (80<(r.s.size:Int))&&decide ((r.s.size:Int)≤1024)
def lgF (r:RF):Bool:=lg1 r.a||lg1 r.b
def lgG (r:RG):Bool:=lgF r.re||lgF r.im
section
variable {r:RF}
end
end Go.Proofs.YtcpjdjnaipbieaaGreat
namespace Go.Proofs.YtcpjdjnaipbieaaGreat
open Go.RowKit Rgn Eng
set_option maxHeartbeats 4000000
set_option maxRecDepth 100000
variable {S:Nat→Prop} {W:World}
theorem eOpenR (r:RMb) :
  Calls Tryz.prog 131 #[rmbV r] W (RetAnd (RetIf (((((gmay r.a)&&(gmay r.b))&&(gmay r.c))&&(gmay r.d))=false) (RetV (.tuple #[.agg #[.pointer none,.pointer none,.pointer none,.pointer none,.pointer none,.pointer none,.pointer none,.pointer none,.bool false],.bool false]) W)) (RetAnd (RetIf (((((gmay r.a)&&(gmay r.b))&&(gmay r.c))&&(gmay r.d))=true∧(((Mb.mk (gvm r.a) (gvm r.b) (gvm r.c) (gvm r.d) r.t).det).zero)=true) (RetV (.tuple #[.agg #[.pointer none,.pointer none,.pointer none,.pointer none,.pointer none,.pointer none,.pointer none,.pointer none,.bool false],.bool false]) W)) (RetIf (((((gmay r.a)&&(gmay r.b))&&(gmay r.c))&&(gmay r.d))=true∧(((Mb.mk (gvm r.a) (gvm r.b) (gvm r.c) (gvm r.d) r.t).det).zero)=false) (Ret (VP.tup (MatP (mvm r)) (VP.is (.bool (mvm r).form))) S W)))):=by
 have f:=mvm_ht r
 have o1:ht (Cx.ofInt (1:Int) (0:Int)).re=2:=by decide
 have o2:ht (Cx.ofInt (1:Int) (0:Int)).im=2:=by decide
 refine Run.goP (S:=S) (Pack.nil.k (rmbV r) (rmbC r).toList (.s (.agg (ks 0 33)))) Tryz.func131 rfl ?_
 refine Run.cR spNumK (fun β ℓ w H=>eOfR r.a) ?_
 refine Run.cR spNumK (fun β ℓ w H=>eOfR r.b) ?_
 refine Run.an (gmay r.a) (gmay r.b) ?_
 refine Run.cR spNumK (fun β ℓ w H=>eOfR r.c) ?_
 refine Run.an (gmay r.a&&gmay r.b) (gmay r.c) ?_
 refine Run.cR spNumK (fun β ℓ w H=>eOfR r.d) ?_
 refine Run.an (gmay r.a&&gmay r.b&&gmay r.c) (gmay r.d) ?_
 rcases Bool.eq_false_or_eq_true (gmay r.a&&gmay r.b&&gmay r.c&&gmay r.d) with h1|h1
 · refine Run.kn h1 ?_
   refine Run.cR spNum (fun β ℓ w H=>mtDet (Mb.mk (gvm r.a) (gvm r.b) (gvm r.c) (gvm r.d) r.t) (MatP.mk (H.f 0) (H.f 1) (H.f 2) (H.f 3) (H.f 4) (H.f 5) (H.f 6) (H.f 7)) (by dsimp only at *;omega)) ?_
   refine Run.cV [.bool (Mb.mk (gvm r.a) (gvm r.b) (gvm r.c) (gvm r.d) r.t).det.zero] kb (fun β ℓ w H=>eZero (Mb.mk (gvm r.a) (gvm r.b) (gvm r.c) (gvm r.d) r.t).det (NumP.mk (H.f 8) (H.f 9))) ?_
   rcases Bool.eq_false_or_eq_true (Mb.mk (gvm r.a) (gvm r.b) (gvm r.c) (gvm r.d) r.t).det.zero with h2|h2
   · refine Run.kn h2 ?_
     exact Run.fin (fun β ℓ w I=>⟨fun c=>absurd c (by simp [h1]),fun _=>RetV.mk rfl I.bel,fun c=>absurd c.2 (by simp [h2])⟩)
   · refine Run.kn h2 ?_
     refine Run.cR spNum (fun β ℓ w H=>eInt 1 0 (by decide) (by decide) (by decide) (by decide)) ?_
     have fin:∀ {b:Bool} {β:Nat→Nat} {ℓ:Nat→Value} {w:World},b=(mvm r).form→(RatN (mvm r).a.re).p (Amb S W) (ℓ 0) w→(RatN (mvm r).a.im).p (Amb S W) (ℓ 1) w→(RatN (mvm r).b.re).p (Amb S W) (ℓ 2) w→(RatN (mvm r).b.im).p (Amb S W) (ℓ 3) w→(RatN (mvm r).c.re).p (Amb S W) (ℓ 4) w→(RatN (mvm r).c.im).p (Amb S W) (ℓ 5) w→(RatN (mvm r).d.re).p (Amb S W) (ℓ 6) w→(RatN (mvm r).d.im).p (Amb S W) (ℓ 7) w→Below W.heap.size W w →
         RetAnd (RetIf ((gmay r.a&&gmay r.b&&gmay r.c&&gmay r.d)=false) (RetV (.tuple #[.agg #[.pointer none,.pointer none,.pointer none,.pointer none,.pointer none,.pointer none,.pointer none,.pointer none,.bool false],.bool false]) W)) (RetAnd (RetIf ((gmay r.a&&gmay r.b&&gmay r.c&&gmay r.d)=true∧(Mb.mk (gvm r.a) (gvm r.b) (gvm r.c) (gvm r.d) r.t).det.zero=true) (RetV (.tuple #[.agg #[.pointer none,.pointer none,.pointer none,.pointer none,.pointer none,.pointer none,.pointer none,.pointer none,.bool false],.bool false]) W)) (RetIf ((gmay r.a&&gmay r.b&&gmay r.c&&gmay r.d)=true∧(Mb.mk (gvm r.a) (gvm r.b) (gvm r.c) (gvm r.d) r.t).det.zero=false) (Ret (VP.tup (MatP (mvm r)) (VP.is (.bool (mvm r).form))) S W))) (.returned (.tuple #[.agg #[ℓ 0,ℓ 1,ℓ 2,ℓ 3,ℓ 4,ℓ 5,ℓ 6,ℓ 7,.bool r.t],.bool b])) w :=
       fun e g0 g1 g2 g3 g4 g5 g6 g7 bel=>⟨fun c=>absurd c (by simp [h1]),fun c=>absurd c.2 (by simp [h2]),fun _=>⟨_,rfl,⟨_,_,rfl,MatP.mk g0 g1 g2 g3 g4 g5 g6 g7,congrArg Value.bool e⟩,bel⟩⟩
     rcases Bool.eq_false_or_eq_true (((gvm r.c).sub (Cx.ofInt (1:Int) (0:Int))).zero) with c1|c1
     · refine Run.dr ?_
       refine RunD.cV [] (cb true) (fun β ℓ w H=>eSame (gvm r.c) (Cx.ofInt 1 0) (NumP.mk (H.f 4) (H.f 5)) (NumP.mk (H.f 10) (H.f 11)) (by dsimp only at *;omega)) ?_ (hV:=fun _ _=>congrArg Value.bool c1)
       refine RunD.en ?_
       exact Run.fin (fun β ℓ w H=>fin (β:=β) (form_1 (m:=mvm r) c1).symm (H.f 0) (H.f 1) (H.f 2) (H.f 3) (H.f 4) (H.f 5) (H.f 6) (H.f 7) H.bel)
     · rcases Bool.eq_false_or_eq_true ((gvm r.c).zero) with c2|c2
       · refine Run.dr ?_
         refine RunD.cV [] (cb false) (fun β ℓ w H=>eSame (gvm r.c) (Cx.ofInt 1 0) (NumP.mk (H.f 4) (H.f 5)) (NumP.mk (H.f 10) (H.f 11)) (by dsimp only at *;omega)) ?_ (hV:=fun _ _=>congrArg Value.bool c1)
         refine RunD.cV [] (cb true) (fun β ℓ w H=>eZero (gvm r.c) (NumP.mk (H.f 4) (H.f 5))) ?_ (hV:=fun _ _=>congrArg Value.bool c2)
         refine RunD.cV [.bool ((mvm r).d.sub (Cx.ofInt 1 0)).zero] kb (fun β ℓ w H=>eSame (gvm r.d) (Cx.ofInt 1 0) (NumP.mk (H.f 6) (H.f 7)) (NumP.mk (H.f 10) (H.f 11)) (by dsimp only at *;omega)) ?_
         refine RunD.en ?_
         exact Run.fin (fun β ℓ w H=>fin (β:=β) (form_3 (m:=mvm r) c1 c2).symm (H.f 0) (H.f 1) (H.f 2) (H.f 3) (H.f 4) (H.f 5) (H.f 6) (H.f 7) H.bel)
       · refine Run.dr ?_
         refine RunD.cV [] (cb false) (fun β ℓ w H=>eSame (gvm r.c) (Cx.ofInt 1 0) (NumP.mk (H.f 4) (H.f 5)) (NumP.mk (H.f 10) (H.f 11)) (by dsimp only at *;omega)) ?_ (hV:=fun _ _=>congrArg Value.bool c1)
         refine RunD.cV [] (cb false) (fun β ℓ w H=>eZero (gvm r.c) (NumP.mk (H.f 4) (H.f 5))) ?_ (hV:=fun _ _=>congrArg Value.bool c2)
         refine RunD.en ?_
         exact Run.fin (fun β ℓ w H=>fin (β:=β) (form_2 (m:=mvm r) c1 c2).symm (H.f 0) (H.f 1) (H.f 2) (H.f 3) (H.f 4) (H.f 5) (H.f 6) (H.f 7) H.bel)
 · refine Run.kn h1 ?_
   exact Run.fin (fun β ℓ w I=>⟨fun _=>RetV.mk rfl I.bel,fun c=>absurd c.1 (by simp [h1]),fun c=>absurd c.1 (by simp [h1])⟩)
end Go.Proofs.YtcpjdjnaipbieaaGreat
namespace Go.Proofs.YtcpjdjnaipbieaaGreat
open Go.RowKit Rgn
theorem eOpenO {S:Nat→Prop} {W:World} (m:Mb) (p0:mbOk (rmb m)=true):Calls Tryz.prog 131 #[mbV m] W (Ret (VP.tup (MatP m) (VP.is (.bool true))) S W):=by
 obtain ⟨h1,h2,h3⟩:=mbOk_c p0
 obtain ⟨k1,k2,k3,k4⟩:=and_4 h1
 have hg:(gmay (rg m.a)&&gmay (rg m.b)&&gmay (rg m.c)&&gmay (rg m.d))=true:=by rw [gmay_rg,gmay_rg,gmay_rg,gmay_rg];exact h1
 have e:mvm (rmb m)=m:=mvm_rmb hg
 have h:=eOpenR (S:=S) (W:=W) (rmb m)
 refine h.mono fun _ _ h=>?_
 have h5:=h.2.2 ⟨hg,by show (mvm (rmb m)).det.zero=false;rw [e];exact h2⟩
 rw [e,h3] at h5
 exact h5
end Go.Proofs.YtcpjdjnaipbieaaGreat
namespace Go.Proofs.YtcpjdjnaipbieaaGreat
open Go.RowKit Rgn Eng
set_option maxHeartbeats 8000000
set_option maxRecDepth 100000
variable {S:Nat→Prop} {W:World}
theorem l14isC (r:RCi) (e:Int) (q:RCi):Calls Tryz.prog 29 #[rciV r,.int .i64 e,rciV q] W (RetV (.bool (isCb r e q)) W):=by
 refine Run.goP (S:=Z0) (((Pack.nil.k (rciV r) (rciC r).toList (.s (.agg (ks 0 16)))).k (.int .i64 e) [.int .i64 e] kb).k (rciV q) (rciC q).toList (.s (.agg (ks 0 16)))) Tryz.func29 rfl ?_
 refine Run.cV [.bool (cifits q)] kb (fun _ _ _ H=>c11Fits q) ?_
 refine (Bool.eq_false_or_eq_true (cifits q)).elim (fun c1=>?_) (fun c1=>?_)
 · refine Run.kn c1 ?_
   refine Run.bi [.bool (decide (r=q))] kb (fun _ _ _ o1 o2 _ ho hx hy=>ex_eql_ci (r:=r) (q:=q) o1 o2 ho hx hy rfl) ?_
   refine (Bool.eq_false_or_eq_true (decide (r=q))).elim (fun c2=>?_) (fun c2=>?_)
   · refine Run.kn c2 ?_
     refine Run.cV [.int .i64 e] kb (fun _ _ _ H=>l14Num e) ?_
     refine Run.ic e 0 (e == 0) ?_
     exact Run.rV (V' := .bool (e == 0)) (isC_3 (by rw [c1];rfl) c2)
   · refine Run.kn c2 ?_
     exact Run.rV (V' := .bool false) (isC_4 (by rw [c1];rfl) c2)
 · refine Run.kn c1 ?_
   refine Run.bi [.bool (decide (r=rzCi))] kb (fun _ _ _ o1 o2 _ ho hx hy=>ex_eql_ci (r:=r) (q:=rzCi) o1 o2 ho hx hy rfl) ?_
   refine (Bool.eq_false_or_eq_true (decide (r=rzCi))).elim (fun c3=>?_) (fun c3=>?_)
   · refine Run.kn c3 ?_
     refine Run.cV [.int .i64 e] kb (fun _ _ _ H=>l14Num e) ?_
     refine Run.ic e 4 (e == 4) ?_
     exact Run.rV (V' := .bool (e == 4)) (isC_1 (by rw [c1];rfl) c3)
   · refine Run.kn c3 ?_
     exact Run.rV (V' := .bool false) (isC_2 (by rw [c1];rfl) c3)
end Go.Proofs.YtcpjdjnaipbieaaGreat
namespace Go.Proofs.YtcpjdjnaipbieaaGreat
open Go.RowKit Rgn Eng
set_option maxHeartbeats 4000000
set_option maxRecDepth 100000
variable {S:Nat→Prop} {W:World}
theorem l14longF (r:RF):Calls Tryz.prog 129 #[rfV r] W (RetV (.bool (lgF r)) W):=by
 refine Run.goP (S:=Z0) (Pack.nil.k (rfV r) (rfC r).toList (.s (.agg (ks 0 4)))) Tryz.func129 rfl ?_
 refine Run.sl r.a.s 9 Tryz.underlying9 ?_
 rcases Bool.eq_false_or_eq_true (decide (80<((r.a.s.size:Nat):Int))) with c0|c0
 · refine Run.ik .gtr ((r.a.s.size:Nat):Int) 80 true (congrArg some c0) ?_
   refine Run.sl r.a.s 9 Tryz.underlying9 ?_
   rcases Bool.eq_false_or_eq_true (decide (((r.a.s.size:Nat):Int)≤1024)) with c1|c1
   · refine Run.ik .leq ((r.a.s.size:Nat):Int) 1024 true (congrArg some c1) ?_
     exact Run.rV (show Value.bool true=.bool (lgF r) by unfold lgF lg1;rw [c0,c1];rfl)
   · refine Run.ik .leq ((r.a.s.size:Nat):Int) 1024 false (congrArg some c1) ?_
     refine Run.sl r.b.s 9 Tryz.underlying9 ?_
     rcases Bool.eq_false_or_eq_true (decide (80<((r.b.s.size:Nat):Int))) with c2|c2
     · refine Run.ik .gtr ((r.b.s.size:Nat):Int) 80 true (congrArg some c2) ?_
       refine Run.sl r.b.s 9 Tryz.underlying9 ?_
       rcases Bool.eq_false_or_eq_true (decide (((r.b.s.size:Nat):Int)≤1024)) with c3|c3
       · refine Run.ik .leq ((r.b.s.size:Nat):Int) 1024 true (congrArg some c3) ?_
         exact Run.rV (show Value.bool true=.bool (lgF r) by unfold lgF lg1;rw [c0,c1,c2,c3];rfl)
       · refine Run.ik .leq ((r.b.s.size:Nat):Int) 1024 false (congrArg some c3) ?_
         exact Run.rV (show Value.bool false=.bool (lgF r) by unfold lgF lg1;rw [c0,c1,c2,c3];rfl)
     · refine Run.ik .gtr ((r.b.s.size:Nat):Int) 80 false (congrArg some c2) ?_
       exact Run.rV (show Value.bool false=.bool (lgF r) by unfold lgF lg1;rw [c0,c1,c2];rfl)
 · refine Run.ik .gtr ((r.a.s.size:Nat):Int) 80 false (congrArg some c0) ?_
   refine Run.sl r.b.s 9 Tryz.underlying9 ?_
   rcases Bool.eq_false_or_eq_true (decide (80<((r.b.s.size:Nat):Int))) with c4|c4
   · refine Run.ik .gtr ((r.b.s.size:Nat):Int) 80 true (congrArg some c4) ?_
     refine Run.sl r.b.s 9 Tryz.underlying9 ?_
     rcases Bool.eq_false_or_eq_true (decide (((r.b.s.size:Nat):Int)≤1024)) with c5|c5
     · refine Run.ik .leq ((r.b.s.size:Nat):Int) 1024 true (congrArg some c5) ?_
       exact Run.rV (show Value.bool true=.bool (lgF r) by unfold lgF lg1;rw [c0,c4,c5];rfl)
     · refine Run.ik .leq ((r.b.s.size:Nat):Int) 1024 false (congrArg some c5) ?_
       exact Run.rV (show Value.bool false=.bool (lgF r) by unfold lgF lg1;rw [c0,c4,c5];rfl)
   · refine Run.ik .gtr ((r.b.s.size:Nat):Int) 80 false (congrArg some c4) ?_
     exact Run.rV (show Value.bool false=.bool (lgF r) by unfold lgF lg1;rw [c0,c4];rfl)
end Go.Proofs.YtcpjdjnaipbieaaGreat
namespace Go.Proofs.YtcpjdjnaipbieaaGreat
open Go.RowKit Rgn Eng
set_option maxHeartbeats 8000000
set_option maxRecDepth 100000
variable {S:Nat→Prop} {W:World}
theorem iOver {v0:Value} (c:Ci) (t0:(RingP c).p S v0 W) (p0:ht c.a+ht c.b.re+ht c.b.im+ht c.c≤1073741824):Calls Tryz.prog 143 #[v0] W (Ret (MatP c.over) S W):=by
 have h1:=hc_conj c.b
 refine Run.goP (S:=S) (Pack.nil.s spRing t0) Tryz.func143 rfl ?_
 refine Run.dr ?_
 refine RunD.cR spNum (fun _ _ _ H=>eConj c.b (NumP.mk (H.f 1) (H.f 2)) (by first|omega|(dsimp only at *;omega))) ?_
 refine RunD.cR spNum (fun _ _ _ H=>eNeg c.b.conj (NumP.mk (H.f 4) (H.f 5)) (by first|omega|(dsimp only at *;omega))) ?_
 refine RunD.cO 2 softRat (fun _ _ _ H=>qNeg c.c (RatP.blk (H.oz 2)) (anyV (H.f 3)) (by first|omega|(dsimp only at *;omega))) ?_
 refine RunD.cRs [2] spNum (fun _ _ _ H=>eReal (-c.c) (H.s 2)) ?_
 refine RunD.cR spNum (fun _ _ _ H=>eReal c.a (H.f 0)) ?_
 refine RunD.en ?_
 exact Run.rR (fun _ _ _ H=>MatP.mk (H.f 6) (H.f 7) (H.f 9) (H.f 10) (H.f 11) (H.f 12) (H.f 1) (H.f 2))
theorem plTold {v0:Value} (p:Pn) (t0:(PlaceP p).p S v0 W) (p0:ht p.z.re+ht p.z.im≤1073741824):Calls Tryz.prog 158 #[v0] W (RetV (.tuple #[rpnV (pncut p),.int .i64 (pnerr p)]) W):=by
 refine Run.goP (S:=S) (Pack.nil.s spPlace t0) Tryz.func158 rfl ?_
 refine (Bool.eq_false_or_eq_true (p.inf)).elim (fun c1=>?_) (fun c1=>?_)
 · refine Run.kn c1 ?_
   exact Run.rV (pcut_inf c1)
 · refine Run.kn c1 ?_
   refine Run.cV ((rgC (gcut p.z)).toList++[.int .i64 (gerr p.z)]) (.tup [.agg (ks 0 8),.o (.k 8)]) (fun _ _ _ H=>eTold p.z (NumP.mk (H.f 0) (H.f 1)) (by first|omega|(dsimp only at *;omega))) ?_
   exact Run.rV (pcut_num c1)
theorem eStill  : Calls Tryz.prog 183 #[] W (Ret (MatP (Mb.mk (Cx.ofInt (1:Int) (0:Int)) ⟨0,0⟩ ⟨0,0⟩ (Cx.ofInt (1:Int) (0:Int)) false)) S W):=by
 refine Run.goP (S:=S) Pack.nil Tryz.func183 rfl ?_
 refine Run.cR spNum (fun _ _ _ H=>eInt 1 0 (by decide) (by decide) (by decide) (by decide)) ?_
 refine Run.cR spNum (fun _ _ _ H=>eInt 1 0 (by decide) (by decide) (by decide) (by decide)) ?_
 exact Run.rR (fun _ _ _ H=>MatP.mk (H.f 0) (H.f 1) (RatN.nil rfl) (RatN.nil rfl) (RatN.nil rfl) (RatN.nil rfl) (H.f 2) (H.f 3))
theorem ivIs (m:Mb) (p0:mbOk (rmb m)=true) :
  Calls Tryz.prog 25 #[mbV m] W (RetV (.tuple #[.agg #[.bool m.isR.a.a.n,.string m.isR.a.a.s,.bool m.isR.a.b.n,.string m.isR.a.b.s,.bool m.isR.b.re.a.n,.string m.isR.b.re.a.s,.bool m.isR.b.re.b.n,.string m.isR.b.re.b.s,.bool m.isR.b.im.a.n,.string m.isR.b.im.a.s,.bool m.isR.b.im.b.n,.string m.isR.b.im.b.s,.bool m.isR.c.a.n,.string m.isR.c.a.s,.bool m.isR.c.b.n,.string m.isR.c.b.s],.int .i64 m.isE]) W):=by
 have f:=mbfits_ht (mbOk_c p0).1
 have o1:ht (Cx.ofInt (1:Int) (0:Int)).re=2:=by decide
 have o2:ht (Cx.ofInt (1:Int) (0:Int)).im=2:=by decide
 have o3:ht (Cx.ofInt (0:Int) (1:Int)).re=2:=by decide
 have o4:ht (Cx.ofInt (0:Int) (1:Int)).im=2:=by decide
 have o5:ht (Rat.divInt (1:Int) (1:Int))=2:=by decide
 have o6:=ht_zero
 have k1:=hc_conj m.a
 have k2:=hc_sub (Cx.ofInt (1:Int) (0:Int)) m.a.conj
 have k30:=hc_mul m.b (Cx.ofInt (1:Int) (0:Int))
 have k40:=hc_neg (m.b.mul (Cx.ofInt (1:Int) (0:Int)))
 have k31:=hc_mul m.b ((Cx.ofInt (1:Int) (0:Int)).sub m.a.conj)
 have k41:=hc_neg (m.b.mul ((Cx.ofInt (1:Int) (0:Int)).sub m.a.conj))
 have k32:=hc_mul m.b (Cx.ofInt (0:Int) (1:Int))
 have k42:=hc_neg (m.b.mul (Cx.ofInt (0:Int) (1:Int)))
 refine Run.goP (S:=Z0) (Pack.nil.k (mbV m) (mbC m).toList (.s (.agg (ks 0 33)))) Tryz.func25 rfl ?_
 refine Run.cR spMatK (fun β ℓ w H=>eOpenO m p0) ?_
 refine Run.kn (b:=true) rfl ?_
 refine Run.dr ?_
 refine RunD.cR spRat (fun β ℓ w H=>qNewRat 1 1 (by decide) (by decide) (by decide) (by decide) (by decide)) ?_
 refine RunD.en ?_
 refine Run.cR spNum (fun β ℓ w H=>eInt 1 0 (by decide) (by decide) (by decide) (by decide)) ?_
 refine Run.cV [.bool m.c.zero] kb (fun β ℓ w H=>eZero m.c (NumP.mk (H.f 4) (H.f 5))) ?_
 rcases Bool.eq_false_or_eq_true m.c.zero with c1|c1
 · refine Run.kn c1 ?_
   refine Run.dr ?_
   refine RunD.cR spNum (fun β ℓ w H=>eInt 1 0 (by decide) (by decide) (by decide) (by decide)) ?_
   refine RunD.cR spNum (fun β ℓ w H=>eConj m.a (NumP.mk (H.f 0) (H.f 1)) (by first|omega|(dsimp only at *;omega))) ?_
   refine RunD.cR spNum (fun β ℓ w H=>eSub (Cx.ofInt (1:Int) (0:Int)) m.a.conj (NumP.mk (H.f 11) (H.f 12)) (NumP.mk (H.f 13) (H.f 14)) (by first|omega|(dsimp only at *;omega))) ?_
   refine RunD.en ?_
   refine Run.cV [.bool ((Cx.ofInt (1:Int) (0:Int)).sub m.a.conj).zero] kb (fun β ℓ w H=>eZero ((Cx.ofInt (1:Int) (0:Int)).sub m.a.conj) (NumP.mk (H.f 15) (H.f 16))) ?_
   rcases Bool.eq_false_or_eq_true ((Cx.ofInt (1:Int) (0:Int)).sub m.a.conj).zero with c2|c2
   · refine Run.kn c2 ?_
     refine Run.cR spNum (fun β ℓ w H=>eInt 0 1 (by decide) (by decide) (by decide) (by decide)) ?_
     refine Run.cR spNum (fun β ℓ w H=>eNMul m.b (Cx.ofInt (0:Int) (1:Int)) (NumP.mk (H.f 2) (H.f 3)) (NumP.mk (H.f 17) (H.f 18)) (by first|omega|(dsimp only at *;omega))) ?_
     refine Run.cR spNum (fun β ℓ w H=>eNeg (m.b.mul (Cx.ofInt (0:Int) (1:Int))) (NumP.mk (H.f 19) (H.f 20)) (by first|omega|(dsimp only at *;omega))) ?_
     refine Run.cR sp2Rat (fun β ℓ w H=>eParts ((m.b.mul (Cx.ofInt (0:Int) (1:Int))).neg) (NumP.mk (H.f 21) (H.f 22))) ?_
     rcases Bool.eq_false_or_eq_true m.t with c3|c3
     · refine Run.kn c3 ?_
       refine Run.cV [.int .i64 ((m.b.mul (Cx.ofInt (0:Int) (1:Int))).neg).im.num.sign] kb (fun β ℓ w H=>qSign ((m.b.mul (Cx.ofInt (0:Int) (1:Int))).neg).im (H.f 24)) ?_
       refine Run.ic ((m.b.mul (Cx.ofInt (0:Int) (1:Int))).neg).im.num.sign 0 (((m.b.mul (Cx.ofInt (0:Int) (1:Int))).neg).im.num.sign != 0) ?_
       rcases Bool.eq_false_or_eq_true (((m.b.mul (Cx.ofInt (0:Int) (1:Int))).neg).im.num.sign != 0) with c4|c4
       · refine Run.kn c4 ?_
         exact Run.rV (is_n (ok_i (is_w2 c1 c2) c4))
       refine Run.kn c4 ?_
       refine Run.se 5 ?_
       refine Run.cR spRat (fun β ℓ w H=>rgPow (Ci.mk (0:Rat) (Cx.ofInt (0:Int) (1:Int)) ((m.b.mul (Cx.ofInt (0:Int) (1:Int))).neg).re) (RingP.mk (H.rz 5) (H.f 17) (H.f 18) (H.f 23)) (by dsimp only at *;omega)) ?_
       refine Run.cV [.int .i64 (Ci.mk (0:Rat) (Cx.ofInt (0:Int) (1:Int)) ((m.b.mul (Cx.ofInt (0:Int) (1:Int))).neg).re).pow.num.sign] kb (fun β ℓ w H=>qSign (Ci.mk (0:Rat) (Cx.ofInt (0:Int) (1:Int)) ((m.b.mul (Cx.ofInt (0:Int) (1:Int))).neg).re).pow (H.f 25)) ?_
       refine Run.ic (Ci.mk (0:Rat) (Cx.ofInt (0:Int) (1:Int)) ((m.b.mul (Cx.ofInt (0:Int) (1:Int))).neg).re).pow.num.sign 0 (decide ((Ci.mk (0:Rat) (Cx.ofInt (0:Int) (1:Int)) ((m.b.mul (Cx.ofInt (0:Int) (1:Int))).neg).re).pow.num.sign≤0)) ?_
       rcases Bool.eq_false_or_eq_true (decide ((Ci.mk (0:Rat) (Cx.ofInt (0:Int) (1:Int)) ((m.b.mul (Cx.ofInt (0:Int) (1:Int))).neg).re).pow.num.sign≤0)) with c5|c5
       · refine Run.kn c5 ?_
         exact Run.rV (is_n (ok_p (is_w2 c1 c2) c5))
       refine Run.kn c5 ?_
       refine Run.cV ((rciC (cicut (Ci.mk (0:Rat) (Cx.ofInt (0:Int) (1:Int)) ((m.b.mul (Cx.ofInt (0:Int) (1:Int))).neg).re).nrm)).toList++[.int .i64 (cierr (Ci.mk (0:Rat) (Cx.ofInt (0:Int) (1:Int)) ((m.b.mul (Cx.ofInt (0:Int) (1:Int))).neg).re).nrm)]) (.tup [.agg (ks 0 16),.o (.k 16)]) (fun β ℓ w H=>rgTold (Ci.mk (0:Rat) (Cx.ofInt (0:Int) (1:Int)) ((m.b.mul (Cx.ofInt (0:Int) (1:Int))).neg).re) (RingP.mk (H.rz 5) (H.f 17) (H.f 18) (H.f 23)) (by dsimp only at *;omega) (pos_flat (pos_of c5))) ?_
       refine Run.cR spRing (fun β ℓ w H=>rgNorm (Ci.mk (0:Rat) (Cx.ofInt (0:Int) (1:Int)) ((m.b.mul (Cx.ofInt (0:Int) (1:Int))).neg).re) (RingP.mk (H.rz 5) (H.f 17) (H.f 18) (H.f 23)) (by dsimp only at *;omega) (pos_flat (pos_of c5))) ?_
       refine Run.cR spMat (fun β ℓ w H=>iOver (Ci.mk (0:Rat) (Cx.ofInt (0:Int) (1:Int)) ((m.b.mul (Cx.ofInt (0:Int) (1:Int))).neg).re).nrm (RingP.mk (H.f 26) (H.f 27) (H.f 28) (H.f 29)) (Nat.le_trans (nrm_le (by dsimp only at *;omega)) (by decide))) ?_
       refine Run.cV ((rmbC (mbcut (Ci.mk (0:Rat) (Cx.ofInt (0:Int) (1:Int)) ((m.b.mul (Cx.ofInt (0:Int) (1:Int))).neg).re).nrm.over.nrm)).toList++[.int .i64 (mberr (Ci.mk (0:Rat) (Cx.ofInt (0:Int) (1:Int)) ((m.b.mul (Cx.ofInt (0:Int) (1:Int))).neg).re).nrm.over.nrm)]) (.tup [.agg (ks 0 33),.o (.k 33)]) (fun β ℓ w H=>mtTold (Ci.mk (0:Rat) (Cx.ofInt (0:Int) (1:Int)) ((m.b.mul (Cx.ofInt (0:Int) (1:Int))).neg).re).nrm.over (MatP.mk (H.f 30) (H.f 31) (H.f 32) (H.f 33) (H.f 34) (H.f 35) (H.f 36) (H.f 37)) (over_le (Nat.le_trans (nrm_le (by dsimp only at *;omega)) (by decide))) (over_piv (pos_nrm (pos_of c5)))) ?_
       refine Run.bi [.bool (!decide (mbcut (Ci.mk (0:Rat) (Cx.ofInt (0:Int) (1:Int)) ((m.b.mul (Cx.ofInt (0:Int) (1:Int))).neg).re).nrm.over.nrm=rmb m))] kb (fun w o ρ x y t' ho hx hy=>ex_neq_mb (r:=mbcut (Ci.mk (0:Rat) (Cx.ofInt (0:Int) (1:Int)) ((m.b.mul (Cx.ofInt (0:Int) (1:Int))).neg).re).nrm.over.nrm) (q:=rmb m) x y ho hx hy rfl) ?_
       rcases Bool.eq_false_or_eq_true (!decide (mbcut (Ci.mk (0:Rat) (Cx.ofInt (0:Int) (1:Int)) ((m.b.mul (Cx.ofInt (0:Int) (1:Int))).neg).re).nrm.over.nrm=rmb m)) with c6|c6
       · refine Run.kn c6 ?_
         exact Run.rV (is_n (ok_b p0 (is_w2 c1 c2) c6))
       refine Run.kn c6 ?_
       exact Run.rV (is_y (is_w2 c1 c2) (ok_y p0 (is_w2 c1 c2) c3 c4 c5 c6))
     · refine Run.kn c3 ?_
       exact Run.rV (is_n (ok_t c3))
   · refine Run.kn c2 ?_
     refine Run.cR spNum (fun β ℓ w H=>eNMul m.b ((Cx.ofInt (1:Int) (0:Int)).sub m.a.conj) (NumP.mk (H.f 2) (H.f 3)) (NumP.mk (H.f 15) (H.f 16)) (by first|omega|(dsimp only at *;omega))) ?_
     refine Run.cR spNum (fun β ℓ w H=>eNeg (m.b.mul ((Cx.ofInt (1:Int) (0:Int)).sub m.a.conj)) (NumP.mk (H.f 17) (H.f 18)) (by first|omega|(dsimp only at *;omega))) ?_
     refine Run.cR sp2Rat (fun β ℓ w H=>eParts ((m.b.mul ((Cx.ofInt (1:Int) (0:Int)).sub m.a.conj)).neg) (NumP.mk (H.f 19) (H.f 20))) ?_
     rcases Bool.eq_false_or_eq_true m.t with c3|c3
     · refine Run.kn c3 ?_
       refine Run.cV [.int .i64 ((m.b.mul ((Cx.ofInt (1:Int) (0:Int)).sub m.a.conj)).neg).im.num.sign] kb (fun β ℓ w H=>qSign ((m.b.mul ((Cx.ofInt (1:Int) (0:Int)).sub m.a.conj)).neg).im (H.f 22)) ?_
       refine Run.ic ((m.b.mul ((Cx.ofInt (1:Int) (0:Int)).sub m.a.conj)).neg).im.num.sign 0 (((m.b.mul ((Cx.ofInt (1:Int) (0:Int)).sub m.a.conj)).neg).im.num.sign != 0) ?_
       rcases Bool.eq_false_or_eq_true (((m.b.mul ((Cx.ofInt (1:Int) (0:Int)).sub m.a.conj)).neg).im.num.sign != 0) with c4|c4
       · refine Run.kn c4 ?_
         exact Run.rV (is_n (ok_i (is_w1 c1 c2) c4))
       refine Run.kn c4 ?_
       refine Run.se 5 ?_
       refine Run.cR spRat (fun β ℓ w H=>rgPow (Ci.mk (0:Rat) ((Cx.ofInt (1:Int) (0:Int)).sub m.a.conj) ((m.b.mul ((Cx.ofInt (1:Int) (0:Int)).sub m.a.conj)).neg).re) (RingP.mk (H.rz 5) (H.f 15) (H.f 16) (H.f 21)) (by dsimp only at *;omega)) ?_
       refine Run.cV [.int .i64 (Ci.mk (0:Rat) ((Cx.ofInt (1:Int) (0:Int)).sub m.a.conj) ((m.b.mul ((Cx.ofInt (1:Int) (0:Int)).sub m.a.conj)).neg).re).pow.num.sign] kb (fun β ℓ w H=>qSign (Ci.mk (0:Rat) ((Cx.ofInt (1:Int) (0:Int)).sub m.a.conj) ((m.b.mul ((Cx.ofInt (1:Int) (0:Int)).sub m.a.conj)).neg).re).pow (H.f 23)) ?_
       refine Run.ic (Ci.mk (0:Rat) ((Cx.ofInt (1:Int) (0:Int)).sub m.a.conj) ((m.b.mul ((Cx.ofInt (1:Int) (0:Int)).sub m.a.conj)).neg).re).pow.num.sign 0 (decide ((Ci.mk (0:Rat) ((Cx.ofInt (1:Int) (0:Int)).sub m.a.conj) ((m.b.mul ((Cx.ofInt (1:Int) (0:Int)).sub m.a.conj)).neg).re).pow.num.sign≤0)) ?_
       rcases Bool.eq_false_or_eq_true (decide ((Ci.mk (0:Rat) ((Cx.ofInt (1:Int) (0:Int)).sub m.a.conj) ((m.b.mul ((Cx.ofInt (1:Int) (0:Int)).sub m.a.conj)).neg).re).pow.num.sign≤0)) with c5|c5
       · refine Run.kn c5 ?_
         exact Run.rV (is_n (ok_p (is_w1 c1 c2) c5))
       refine Run.kn c5 ?_
       refine Run.cV ((rciC (cicut (Ci.mk (0:Rat) ((Cx.ofInt (1:Int) (0:Int)).sub m.a.conj) ((m.b.mul ((Cx.ofInt (1:Int) (0:Int)).sub m.a.conj)).neg).re).nrm)).toList++[.int .i64 (cierr (Ci.mk (0:Rat) ((Cx.ofInt (1:Int) (0:Int)).sub m.a.conj) ((m.b.mul ((Cx.ofInt (1:Int) (0:Int)).sub m.a.conj)).neg).re).nrm)]) (.tup [.agg (ks 0 16),.o (.k 16)]) (fun β ℓ w H=>rgTold (Ci.mk (0:Rat) ((Cx.ofInt (1:Int) (0:Int)).sub m.a.conj) ((m.b.mul ((Cx.ofInt (1:Int) (0:Int)).sub m.a.conj)).neg).re) (RingP.mk (H.rz 5) (H.f 15) (H.f 16) (H.f 21)) (by dsimp only at *;omega) (pos_flat (pos_of c5))) ?_
       refine Run.cR spRing (fun β ℓ w H=>rgNorm (Ci.mk (0:Rat) ((Cx.ofInt (1:Int) (0:Int)).sub m.a.conj) ((m.b.mul ((Cx.ofInt (1:Int) (0:Int)).sub m.a.conj)).neg).re) (RingP.mk (H.rz 5) (H.f 15) (H.f 16) (H.f 21)) (by dsimp only at *;omega) (pos_flat (pos_of c5))) ?_
       refine Run.cR spMat (fun β ℓ w H=>iOver (Ci.mk (0:Rat) ((Cx.ofInt (1:Int) (0:Int)).sub m.a.conj) ((m.b.mul ((Cx.ofInt (1:Int) (0:Int)).sub m.a.conj)).neg).re).nrm (RingP.mk (H.f 24) (H.f 25) (H.f 26) (H.f 27)) (Nat.le_trans (nrm_le (by dsimp only at *;omega)) (by decide))) ?_
       refine Run.cV ((rmbC (mbcut (Ci.mk (0:Rat) ((Cx.ofInt (1:Int) (0:Int)).sub m.a.conj) ((m.b.mul ((Cx.ofInt (1:Int) (0:Int)).sub m.a.conj)).neg).re).nrm.over.nrm)).toList++[.int .i64 (mberr (Ci.mk (0:Rat) ((Cx.ofInt (1:Int) (0:Int)).sub m.a.conj) ((m.b.mul ((Cx.ofInt (1:Int) (0:Int)).sub m.a.conj)).neg).re).nrm.over.nrm)]) (.tup [.agg (ks 0 33),.o (.k 33)]) (fun β ℓ w H=>mtTold (Ci.mk (0:Rat) ((Cx.ofInt (1:Int) (0:Int)).sub m.a.conj) ((m.b.mul ((Cx.ofInt (1:Int) (0:Int)).sub m.a.conj)).neg).re).nrm.over (MatP.mk (H.f 28) (H.f 29) (H.f 30) (H.f 31) (H.f 32) (H.f 33) (H.f 34) (H.f 35)) (over_le (Nat.le_trans (nrm_le (by dsimp only at *;omega)) (by decide))) (over_piv (pos_nrm (pos_of c5)))) ?_
       refine Run.bi [.bool (!decide (mbcut (Ci.mk (0:Rat) ((Cx.ofInt (1:Int) (0:Int)).sub m.a.conj) ((m.b.mul ((Cx.ofInt (1:Int) (0:Int)).sub m.a.conj)).neg).re).nrm.over.nrm=rmb m))] kb (fun w o ρ x y t' ho hx hy=>ex_neq_mb (r:=mbcut (Ci.mk (0:Rat) ((Cx.ofInt (1:Int) (0:Int)).sub m.a.conj) ((m.b.mul ((Cx.ofInt (1:Int) (0:Int)).sub m.a.conj)).neg).re).nrm.over.nrm) (q:=rmb m) x y ho hx hy rfl) ?_
       rcases Bool.eq_false_or_eq_true (!decide (mbcut (Ci.mk (0:Rat) ((Cx.ofInt (1:Int) (0:Int)).sub m.a.conj) ((m.b.mul ((Cx.ofInt (1:Int) (0:Int)).sub m.a.conj)).neg).re).nrm.over.nrm=rmb m)) with c6|c6
       · refine Run.kn c6 ?_
         exact Run.rV (is_n (ok_b p0 (is_w1 c1 c2) c6))
       refine Run.kn c6 ?_
       exact Run.rV (is_y (is_w1 c1 c2) (ok_y p0 (is_w1 c1 c2) c3 c4 c5 c6))
     · refine Run.kn c3 ?_
       exact Run.rV (is_n (ok_t c3))
 · refine Run.kn c1 ?_
   refine Run.cR spNum (fun β ℓ w H=>eNMul m.b (Cx.ofInt (1:Int) (0:Int)) (NumP.mk (H.f 2) (H.f 3)) (NumP.mk (H.f 9) (H.f 10)) (by first|omega|(dsimp only at *;omega))) ?_
   refine Run.cR spNum (fun β ℓ w H=>eNeg (m.b.mul (Cx.ofInt (1:Int) (0:Int))) (NumP.mk (H.f 11) (H.f 12)) (by first|omega|(dsimp only at *;omega))) ?_
   refine Run.cR sp2Rat (fun β ℓ w H=>eParts ((m.b.mul (Cx.ofInt (1:Int) (0:Int))).neg) (NumP.mk (H.f 13) (H.f 14))) ?_
   rcases Bool.eq_false_or_eq_true m.t with c3|c3
   · refine Run.kn c3 ?_
     refine Run.cV [.int .i64 ((m.b.mul (Cx.ofInt (1:Int) (0:Int))).neg).im.num.sign] kb (fun β ℓ w H=>qSign ((m.b.mul (Cx.ofInt (1:Int) (0:Int))).neg).im (H.f 16)) ?_
     refine Run.ic ((m.b.mul (Cx.ofInt (1:Int) (0:Int))).neg).im.num.sign 0 (((m.b.mul (Cx.ofInt (1:Int) (0:Int))).neg).im.num.sign != 0) ?_
     rcases Bool.eq_false_or_eq_true (((m.b.mul (Cx.ofInt (1:Int) (0:Int))).neg).im.num.sign != 0) with c4|c4
     · refine Run.kn c4 ?_
       exact Run.rV (is_n (ok_i (is_w0 c1) c4))
     refine Run.kn c4 ?_
     refine Run.cR spRat (fun β ℓ w H=>rgPow (Ci.mk (Rat.divInt (1:Int) (1:Int)) m.d ((m.b.mul (Cx.ofInt (1:Int) (0:Int))).neg).re) (RingP.mk (H.f 8) (H.f 6) (H.f 7) (H.f 15)) (by dsimp only at *;omega)) ?_
     refine Run.cV [.int .i64 (Ci.mk (Rat.divInt (1:Int) (1:Int)) m.d ((m.b.mul (Cx.ofInt (1:Int) (0:Int))).neg).re).pow.num.sign] kb (fun β ℓ w H=>qSign (Ci.mk (Rat.divInt (1:Int) (1:Int)) m.d ((m.b.mul (Cx.ofInt (1:Int) (0:Int))).neg).re).pow (H.f 17)) ?_
     refine Run.ic (Ci.mk (Rat.divInt (1:Int) (1:Int)) m.d ((m.b.mul (Cx.ofInt (1:Int) (0:Int))).neg).re).pow.num.sign 0 (decide ((Ci.mk (Rat.divInt (1:Int) (1:Int)) m.d ((m.b.mul (Cx.ofInt (1:Int) (0:Int))).neg).re).pow.num.sign≤0)) ?_
     rcases Bool.eq_false_or_eq_true (decide ((Ci.mk (Rat.divInt (1:Int) (1:Int)) m.d ((m.b.mul (Cx.ofInt (1:Int) (0:Int))).neg).re).pow.num.sign≤0)) with c5|c5
     · refine Run.kn c5 ?_
       exact Run.rV (is_n (ok_p (is_w0 c1) c5))
     refine Run.kn c5 ?_
     refine Run.cV ((rciC (cicut (Ci.mk (Rat.divInt (1:Int) (1:Int)) m.d ((m.b.mul (Cx.ofInt (1:Int) (0:Int))).neg).re).nrm)).toList++[.int .i64 (cierr (Ci.mk (Rat.divInt (1:Int) (1:Int)) m.d ((m.b.mul (Cx.ofInt (1:Int) (0:Int))).neg).re).nrm)]) (.tup [.agg (ks 0 16),.o (.k 16)]) (fun β ℓ w H=>rgTold (Ci.mk (Rat.divInt (1:Int) (1:Int)) m.d ((m.b.mul (Cx.ofInt (1:Int) (0:Int))).neg).re) (RingP.mk (H.f 8) (H.f 6) (H.f 7) (H.f 15)) (by dsimp only at *;omega) (pos_flat (pos_of c5))) ?_
     refine Run.cR spRing (fun β ℓ w H=>rgNorm (Ci.mk (Rat.divInt (1:Int) (1:Int)) m.d ((m.b.mul (Cx.ofInt (1:Int) (0:Int))).neg).re) (RingP.mk (H.f 8) (H.f 6) (H.f 7) (H.f 15)) (by dsimp only at *;omega) (pos_flat (pos_of c5))) ?_
     refine Run.cR spMat (fun β ℓ w H=>iOver (Ci.mk (Rat.divInt (1:Int) (1:Int)) m.d ((m.b.mul (Cx.ofInt (1:Int) (0:Int))).neg).re).nrm (RingP.mk (H.f 18) (H.f 19) (H.f 20) (H.f 21)) (Nat.le_trans (nrm_le (by dsimp only at *;omega)) (by decide))) ?_
     refine Run.cV ((rmbC (mbcut (Ci.mk (Rat.divInt (1:Int) (1:Int)) m.d ((m.b.mul (Cx.ofInt (1:Int) (0:Int))).neg).re).nrm.over.nrm)).toList++[.int .i64 (mberr (Ci.mk (Rat.divInt (1:Int) (1:Int)) m.d ((m.b.mul (Cx.ofInt (1:Int) (0:Int))).neg).re).nrm.over.nrm)]) (.tup [.agg (ks 0 33),.o (.k 33)]) (fun β ℓ w H=>mtTold (Ci.mk (Rat.divInt (1:Int) (1:Int)) m.d ((m.b.mul (Cx.ofInt (1:Int) (0:Int))).neg).re).nrm.over (MatP.mk (H.f 22) (H.f 23) (H.f 24) (H.f 25) (H.f 26) (H.f 27) (H.f 28) (H.f 29)) (over_le (Nat.le_trans (nrm_le (by dsimp only at *;omega)) (by decide))) (over_piv (pos_nrm (pos_of c5)))) ?_
     refine Run.bi [.bool (!decide (mbcut (Ci.mk (Rat.divInt (1:Int) (1:Int)) m.d ((m.b.mul (Cx.ofInt (1:Int) (0:Int))).neg).re).nrm.over.nrm=rmb m))] kb (fun w o ρ x y t' ho hx hy=>ex_neq_mb (r:=mbcut (Ci.mk (Rat.divInt (1:Int) (1:Int)) m.d ((m.b.mul (Cx.ofInt (1:Int) (0:Int))).neg).re).nrm.over.nrm) (q:=rmb m) x y ho hx hy rfl) ?_
     rcases Bool.eq_false_or_eq_true (!decide (mbcut (Ci.mk (Rat.divInt (1:Int) (1:Int)) m.d ((m.b.mul (Cx.ofInt (1:Int) (0:Int))).neg).re).nrm.over.nrm=rmb m)) with c6|c6
     · refine Run.kn c6 ?_
       exact Run.rV (is_n (ok_b p0 (is_w0 c1) c6))
     refine Run.kn c6 ?_
     exact Run.rV (is_y (is_w0 c1) (ok_y p0 (is_w0 c1) c3 c4 c5 c6))
   · refine Run.kn c3 ?_
     exact Run.rV (is_n (ok_t c3))
end Go.Proofs.YtcpjdjnaipbieaaGreat
namespace Go.Proofs.YtcpjdjnaipbieaaGreat
open Go.RowKit Rgn
set_option maxHeartbeats 4000000
set_option maxRecDepth 100000
variable {S:Nat→Prop} {W:World}
theorem ivWhY {b1:Nat} (x:Ci) (y:Ci) (B1:W.heap[b1]? = some (.cells #[.bool (decide (x.a.num<0)),.string (bS x.a.num.natAbs),.bool (decide ((x.a.den:Int)<0)),.string (bS (x.a.den:Int).natAbs),.bool (decide (x.b.re.num<0)),.string (bS x.b.re.num.natAbs),.bool (decide ((x.b.re.den:Int)<0)),.string (bS (x.b.re.den:Int).natAbs),.bool (decide (x.b.im.num<0)),.string (bS x.b.im.num.natAbs),.bool (decide ((x.b.im.den:Int)<0)),.string (bS (x.b.im.den:Int).natAbs),.bool (decide (x.c.num<0)),.string (bS x.c.num.natAbs),.bool (decide ((x.c.den:Int)<0)),.string (bS (x.c.den:Int).natAbs),.bool (decide (y.a.num<0)),.string (bS y.a.num.natAbs),.bool (decide ((y.a.den:Int)<0)),.string (bS (y.a.den:Int).natAbs),.bool (decide (y.b.re.num<0)),.string (bS y.b.re.num.natAbs),.bool (decide ((y.b.re.den:Int)<0)),.string (bS (y.b.re.den:Int).natAbs),.bool (decide (y.b.im.num<0)),.string (bS y.b.im.num.natAbs),.bool (decide ((y.b.im.den:Int)<0)),.string (bS (y.b.im.den:Int).natAbs),.bool (decide (y.c.num<0)),.string (bS y.c.num.natAbs),.bool (decide ((y.c.den:Int)<0)),.string (bS (y.c.den:Int).natAbs)] 47 (0,0))) (p0:ciOk (rci x)=true) (p1:ciOk (rci y)=true) :
  Calls Tryz.prog 160 #[.slice (some ⟨b1,0,none⟩) 2 2] W (RetRow 203 2 (.int .i64 0) [x,y] S W):=by
 have X1:=lt_of B1
 have bel:=b0 W
 go_enter Tryz.func160,Tryz.ntmps160
 refine gs 2 (Amb S W) fun _ K2=>?_
 refine .mc rfl ?_
 refine .mc rfl ?_
 refine .dk (fun u=>.slice (some ⟨b1,0,none⟩) 2 2::U::u 0::u 1::us 27) K2 bel fun u1 w1 D bel=>?_
 have E1_0:=D.q 0
 have E1_1:=D.q 1
 replace B1:=D.k B1
 clear D
 refine gs 1 (Amb S W) fun _ K3=>?_
 refine .mc rfl ?_
 refine .dk (fun u=>.slice (some ⟨b1,0,none⟩) 2 2::U::u1 0::u1 1::u 0::us 26) K3 bel fun u2 w2 D bel=>?_
 have E2_0:=D.q 0
 replace B1:=D.k B1
 clear D
 refine wp_seq_k fun _ K4=>?_
 refine gs 3 (Amb S W) fun _ K5=>?_
 refine .mz rfl 0 (V:=.slice (some ⟨b1,0,none⟩) 2 2) rfl ?_
 refine .e rfl (V:=.int .i64 2) (fun H=>x_lens (H.g 9 0)) ?_
 refine .mc rfl ?_
 refine .dk (fun u=>.slice (some ⟨b1,0,none⟩) 2 2::U::u1 0::u1 1::u2 0::U::U::U::U::sq u 0 3 (us 19)) K5 bel fun u3 w3 D bel=>?_
 have E3_0:=D.q 0
 have E3_1:=D.q 1
 have E3_2:=D.q 2
 replace B1:=D.k B1
 clear D
 refine wp_block ?_
 refine wp_loop_rounds 3 ?_
 refine rounds_k fun K6 hK6=>?_
 refine gs 1 (Amb S W) fun _ K7=>?_
 refine .e rfl (V:=.bool true) (fun H=>x_cmp (H.z 11 E3_2) (H.z 10 E3_1)) ?_
 refine .dk (fun u=>.slice (some ⟨b1,0,none⟩) 2 2::U::u1 0::u1 1::u2 0::U::U::U::U::sq u3 0 3 (u 0::us 18)) K7 bel fun u4 w4 D bel=>?_
 have E4_0:=D.q 0
 replace B1:=D.k B1
 clear D
 refine wp_seq_k fun _ K8=>?_
 refine wp_cond_true (by exact E4_0) ?_
 refine wp_skip ?_
 refine K8 _ _ ?_
 refine wp_seq_k fun _ K9=>?_
 refine wp_block ?_
 refine gs 4 (Amb S W) fun _ K10=>?_
 refine .e rfl (V:=pt b1) (fun H=>x_ixs 16 (H.z 9 E3_0) (H.z 11 E3_2)) ?_
 refine .lp rfl 0 (ciC x) B1 ?_
 refine .al rfl zCi ?_
 refine .so rfl 2 (fun H=>⟨H.r 6 2,H.g 14 1⟩) ?_
 refine .dk (fun u=>.slice (some ⟨b1,0,none⟩) 2 2::U::u1 0::u1 1::u2 0::U::u 2::U::U::sq u3 0 3 (u4 0::u 0::u 1::us 16)) K10 bel fun u5 w5 D bel=>?_
 obtain ⟨b11,E5_2,A11,B11⟩:=D.st 3
 have E5_0:=D.q 0
 have E5_1:=D.q 1
 replace B1:=D.k B1
 clear D
 refine gs 8 (Amb S W) fun _ K12=>?_
 refine .lr rfl 6 E5_2 B11 ?_
 refine .cR rfl [] Tryz.func155 (fun H=>⟨_,ar1 (H.g 16 0),eWheelO _ (by first|omega|exact p0|exact p1)⟩) ?_
 refine .mn rfl 1 [1] ?_
 refine Go2.fn (i:=3) rfl (G0 rfl) (.val 3 [1,2] (RingP x)) (fun u μ ρ H=>by have e15:=H.r 15 2;have h0:=(H.a 2 rfl);obtain ⟨x0,x1,h1,h2⟩:=h0;rw [h1] at e15;exact ⟨x0,by clear H;go_simp,SP.tupKeep (by decide) (by decide) h2.1⟩) ?_
 refine .e rfl (V:=.bool true) (fun H=>by have e15:=H.r 15 2;have h0:=(H.a 2 rfl);obtain ⟨x0,x1,h1,h2,h3⟩:=h0;rw [h1] at e15;have h3:x1=.bool true:=h3;subst h3;clear H;go_simp) ?_
 refine .al rfl (#[.pointer none,.pointer none,.pointer none,.pointer none]) ?_
 refine Go2.storeOwn (i:=6) (m:=5) rfl rfl (.head _) (SP.cells 5 [3] (fun u=>#[((u 3).v.cells.getD 0 undef),((u 3).v.cells.getD 1 undef),((u 3).v.cells.getD 2 undef),((u 3).v.cells.getD 3 undef)]) 203 (by intro u u' h;simp [h 3 (by simp)])) (fun u μ ρ b H h0 hB hb=>?_) ?_
 · have e7:=H.r 7 5;have e18:=H.r 18 3
   rw [h0] at e7
   obtain ⟨x1,x2,x3,x4,h1,h2,h3,h4,h5⟩:=(H.a 3 rfl)
   have o1:=VP1.rat h2
   have o2:=VP1.ratn h3
   have o3:=VP1.ratn h4
   have o4:=VP1.rat h5
   rw [h1] at e18
   refine ⟨μ.setRow b #[x1,x2,x3,x4],ex_store_row 203 _ _ rfl e7 e18 hb (by kernel_rfl) rfl (by simp [o1,o2,o3,o4]<;>rfl),fun g=>⟨b,?_,hB,?_⟩,setRow_only _ _ _⟩
   · rw [upd_other _ _ (by decide)];exact h0
   · rw [setRow_at hb];try simp [upd,h1,Value.cells]
 refine .mv rfl 4 ?_
 refine .dk (fun u=>.slice (some ⟨b1,0,none⟩) 2 2::U::u1 0::u1 1::u2 0::U::u5 2::u 5::u 7::sq u3 0 3 (u4 0::u5 0::u5 1::u 2::u 0::u 1::u 3::u 4::us 11)) K12 bel fun u6 w6 D bel=>?_
 obtain ⟨x13,x14,E6_1,F_x13,F_x14⟩:=(D.rr 1)
 obtain ⟨b15,x16,x17,b18,rfl,L15,L18,F15,F_x16,F_x17,F18⟩:=RingP.elim F_x13
 obtain rfl:x14=_:=F_x14
 obtain ⟨x19,x20,E6_2,F_x19,F_x20⟩:=(D.rr 2)
 obtain ⟨b21,x22,x23,b24,rfl,L21,L24,F21,F_x22,F_x23,F24⟩:=RingP.elim F_x19
 obtain rfl:x20=_:=F_x20
 obtain ⟨b25,x26,x27,b28,E6_3,L25,L28,F25,F_x26,F_x27,F28⟩:=RingP.elim (D.rr 3)
 obtain ⟨b29,E6_5,A29,B29⟩:=(D.a 6 rfl)
 replace A29:=le2 D.le A29
 have E6_0:=D.q 0
 have E6_4:=D.q 4
 have E6_7:=D.q 7
 replace B1:=D.k B1
 replace B11:=D.k B11
 simp only [Value.cells,E6_1,E6_2,E6_3,E6_5] at B29
 replace B29:w6.heap[b29]? = some (.cells #[pt b25,x26,x27,pt b28] 203 (0,0)):=B29
 clear D
 refine wp_seq_k fun _ K30=>?_
 refine gs 2 (Amb S W) fun _ K31=>?_
 refine .mz rfl 8 E6_7 ?_
 refine .e rfl (V:=.bool false) (fun H=>x_not (H.g 20 0)) ?_
 refine .dk (fun u=>.slice (some ⟨b1,0,none⟩) 2 2::U::u1 0::u1 1::u2 0::U::u5 2::u6 5::u6 7::sq u3 0 3 (u4 0::u5 0::u5 1::u6 2::u6 0::u6 1::u6 3::u6 4::u 0::u 1::us 9)) K31 bel fun u7 w7 D bel=>?_
 have E7_0:=D.q 0
 have E7_1:=D.q 1
 replace B1:=D.k B1
 replace B11:=D.k B11
 replace B29:=D.k B29
 replace F15:=D.o L15 F15
 replace F18:=D.o L18 F18
 replace F21:=D.o L21 F21
 replace F24:=D.o L24 F24
 replace F25:=D.o L25 F25
 replace F28:=D.o L28 F28
 replace F_x16:=D.gr (RatN x.b.re) F_x16
 replace F_x17:=D.gr (RatN x.b.im) F_x17
 replace F_x22:=D.gr (RatN x.b.re) F_x22
 replace F_x23:=D.gr (RatN x.b.im) F_x23
 replace F_x26:=D.gr (RatN x.b.re) F_x26
 replace F_x27:=D.gr (RatN x.b.im) F_x27
 clear D
 refine wp_cond_false (by exact E7_1) ?_
 refine wp_skip ?_
 refine K30 _ _ ?_
 refine wp_region_list ?_
 refine wpT_val rfl (ex_move rfl) ?_
 refine wpT_val (v:=.agg #[pt b25,x26,x27,pt b28]) rfl (ex_load_row 203 _ rfl (by exact E6_5) B29 Tryz.underlying203 rfl (by kernel_rfl)) ?_
 refine wpT_bs1 (e:=203) 4 (cs:=#[pt b25,x26,x27,pt b28]) rfl rfl rfl rfl (by kernel_rfl) (by kernel_rfl) (by decide) (by decide) rfl fun b33 w32 A33 B33 ow32=>?_
 have N1_33:=Nat.ne_of_lt (Nat.lt_of_lt_of_le (lt_of B1) A33)
 have N11_33:=Nat.ne_of_lt (Nat.lt_of_lt_of_le (lt_of B11) A33)
 have N29_33:=Nat.ne_of_lt (Nat.lt_of_lt_of_le (lt_of B29) A33)
 replace A33:=Nat.le_trans bel.size A33
 replace B1:=(ow32.block b1 (lt_of B1)).trans B1
 replace B11:=(ow32.block b11 (lt_of B11)).trans B11
 replace B29:=(ow32.block b29 (lt_of B29)).trans B29
 replace F15:=(RatP x.a).grow (Rgn.Below.growS ow32 (Nat.le_refl _) _) F15
 replace F18:=(RatP x.c).grow (Rgn.Below.growS ow32 (Nat.le_refl _) _) F18
 replace F21:=(RatP x.a).grow (Rgn.Below.growS ow32 (Nat.le_refl _) _) F21
 replace F24:=(RatP x.c).grow (Rgn.Below.growS ow32 (Nat.le_refl _) _) F24
 replace F25:=(RatP x.a).grow (Rgn.Below.growS ow32 (Nat.le_refl _) _) F25
 replace F28:=(RatP x.c).grow (Rgn.Below.growS ow32 (Nat.le_refl _) _) F28
 replace F_x16:=(RatN x.b.re).grow (Rgn.Below.growS ow32 (Nat.le_refl _) _) F_x16
 replace F_x17:=(RatN x.b.im).grow (Rgn.Below.growS ow32 (Nat.le_refl _) _) F_x17
 replace F_x22:=(RatN x.b.re).grow (Rgn.Below.growS ow32 (Nat.le_refl _) _) F_x22
 replace F_x23:=(RatN x.b.im).grow (Rgn.Below.growS ow32 (Nat.le_refl _) _) F_x23
 replace F_x26:=(RatN x.b.re).grow (Rgn.Below.growS ow32 (Nat.le_refl _) _) F_x26
 replace F_x27:=(RatN x.b.im).grow (Rgn.Below.growS ow32 (Nat.le_refl _) _) F_x27
 replace bel:=bel.trans (ow32.mono bel.size)
 refine wpT_apR (n₀:=W.heap.size) 32 rfl rfl (by exact E2_0) rfl (World.ownsRow_nil _ _ _ _) B33 rfl (VP1.ratn F_x26) (VP1.ratn F_x27) rfl bel.size (by decide) (by kernel_rfl) (by kernel_rfl) (by decide) rfl fun v34 w35 O_v34 ow35 gw35=>?_
 replace F15:=(RatP x.a).grow (gw35 _) F15
 replace F18:=(RatP x.c).grow (gw35 _) F18
 replace F21:=(RatP x.a).grow (gw35 _) F21
 replace F24:=(RatP x.c).grow (gw35 _) F24
 replace F25:=(RatP x.a).grow (gw35 _) F25
 replace F28:=(RatP x.c).grow (gw35 _) F28
 replace F_x16:=(RatN x.b.re).grow (gw35 _) F_x16
 replace F_x17:=(RatN x.b.im).grow (gw35 _) F_x17
 replace F_x22:=(RatN x.b.re).grow (gw35 _) F_x22
 replace F_x23:=(RatN x.b.im).grow (gw35 _) F_x23
 replace F_x26:=(RatN x.b.re).grow (gw35 _) F_x26
 replace F_x27:=(RatN x.b.im).grow (gw35 _) F_x27
 replace B1:=(ow35.block _ X1).trans B1
 replace bel:=bel.trans ow35
 refine wpList_as (fr (.slice (some ⟨b1,0,none⟩) 2 2::U::u1 0::u1 1::u2 0::U::u5 2::u6 5::u6 7::sq u3 0 3 (u4 0::u5 0::u5 1::u6 2::u6 0::u6 1::u6 3::u6 4::u7 0::u7 1::u2 0::.agg #[pt b25,x26,x27,pt b28]::.slice (some ⟨b33,0,none⟩) 1 1::v34::us 5))) (by kernel_rfl) ?_
 refine wpT_val rfl (ex_assign rfl) ?_
 refine wpList_as (fr (.slice (some ⟨b1,0,none⟩) 2 2::U::u1 0::u1 1::v34::U::u5 2::u6 5::u6 7::sq u3 0 3 (u4 0::u5 0::u5 1::u6 2::u6 0::u6 1::u6 3::u6 4::u7 0::u7 1::u2 0::.agg #[pt b25,x26,x27,pt b28]::.slice (some ⟨b33,0,none⟩) 1 1::v34::us 5))) (by kernel_rfl) ?_
 refine wpList_nil ?_
 show _
 refine inBlock_normal ?_
 refine K9 _ _ ?_
 refine wp_region_list ?_
 refine wpT_val (v:=.int .i64 1) rfl (by have aw_:IntKind.wrap .i64 1=1:=(by decide);have:=E3_2;go_simp) ?_
 refine wpT_val rfl (ex_move rfl) ?_
 refine wpList_as (fr (.slice (some ⟨b1,0,none⟩) 2 2::U::u1 0::u1 1::v34::U::u5 2::u6 5::u6 7::u3 0::u3 1::.int .i64 1::u4 0::u5 0::u5 1::u6 2::u6 0::u6 1::u6 3::u6 4::u7 0::u7 1::u2 0::.agg #[pt b25,x26,x27,pt b28]::.slice (some ⟨b33,0,none⟩) 1 1::v34::.int .i64 1::us 4)) (by kernel_rfl) ?_
 refine wpList_nil ?_
 show _
 refine hK6 _ _ ?_
 refine rounds_k fun K36 hK36=>?_
 refine gs 1 (Amb S W) fun _ K37=>?_
 refine .e rfl (V:=.bool true) (fun H=>x_cmp (H.v 11 (.int .i64 1)) (H.z 10 E3_1)) ?_
 refine .dk (fun u=>.slice (some ⟨b1,0,none⟩) 2 2::U::u1 0::u1 1::v34::U::u5 2::u6 5::u6 7::u3 0::u3 1::.int .i64 1::u 0::u5 0::u5 1::u6 2::u6 0::u6 1::u6 3::u6 4::u7 0::u7 1::u2 0::.agg #[pt b25,x26,x27,pt b28]::.slice (some ⟨b33,0,none⟩) 1 1::v34::.int .i64 1::us 4) K37 bel fun u10 w10 D bel=>?_
 have E10_0:=D.q 0
 replace B1:=D.k B1
 replace F15:=D.o L15 F15
 replace F18:=D.o L18 F18
 replace F21:=D.o L21 F21
 replace F24:=D.o L24 F24
 replace F25:=D.o L25 F25
 replace F28:=D.o L28 F28
 replace O_v34:=own_low O_v34 (D.d.base.bel0 (RowKit.Below.refl _ _) (Nat.le_refl _))
 replace F_x16:=D.gr (RatN x.b.re) F_x16
 replace F_x17:=D.gr (RatN x.b.im) F_x17
 replace F_x22:=D.gr (RatN x.b.re) F_x22
 replace F_x23:=D.gr (RatN x.b.im) F_x23
 replace F_x26:=D.gr (RatN x.b.re) F_x26
 replace F_x27:=D.gr (RatN x.b.im) F_x27
 clear D
 refine wp_seq_k fun _ K38=>?_
 refine wp_cond_true (by exact E10_0) ?_
 refine wp_skip ?_
 refine K38 _ _ ?_
 refine wp_seq_k fun _ K39=>?_
 refine wp_block ?_
 refine gs 4 (Amb S W) fun _ K40=>?_
 refine .e rfl (V:=.pointer (some ⟨b1,16,none⟩)) (fun H=>x_ixs 16 (H.z 9 E3_0) (H.v 11 (.int .i64 1))) ?_
 refine .lp rfl 0 (ciC y) B1 ?_
 refine .al rfl zCi ?_
 refine .so rfl 2 (fun H=>⟨H.r 6 2,H.g 14 1⟩) ?_
 refine .dk (fun u=>.slice (some ⟨b1,0,none⟩) 2 2::U::u1 0::u1 1::v34::U::u 2::u6 5::u6 7::u3 0::u3 1::.int .i64 1::u10 0::u 0::u 1::u6 2::u6 0::u6 1::u6 3::u6 4::u7 0::u7 1::u2 0::.agg #[pt b25,x26,x27,pt b28]::.slice (some ⟨b33,0,none⟩) 1 1::v34::.int .i64 1::us 4) K40 bel fun u11 w11 D bel=>?_
 obtain ⟨b41,E11_2,A41,B41⟩:=D.st 3
 have E11_0:=D.q 0
 have E11_1:=D.q 1
 replace B1:=D.k B1
 replace F15:=D.o L15 F15
 replace F18:=D.o L18 F18
 replace F21:=D.o L21 F21
 replace F24:=D.o L24 F24
 replace F25:=D.o L25 F25
 replace F28:=D.o L28 F28
 replace O_v34:=own_low O_v34 (D.d.base.bel0 (RowKit.Below.refl _ _) (Nat.le_refl _))
 replace F_x16:=D.gr (RatN x.b.re) F_x16
 replace F_x17:=D.gr (RatN x.b.im) F_x17
 replace F_x22:=D.gr (RatN x.b.re) F_x22
 replace F_x23:=D.gr (RatN x.b.im) F_x23
 replace F_x26:=D.gr (RatN x.b.re) F_x26
 replace F_x27:=D.gr (RatN x.b.im) F_x27
 clear D
 refine gs 8 (Amb S W) fun _ K42=>?_
 refine .lr rfl 6 E11_2 B41 ?_
 refine .cR rfl [] Tryz.func155 (fun H=>⟨_,ar1 (H.g 16 0),eWheelO _ (by first|omega|exact p0|exact p1)⟩) ?_
 refine .mn rfl 1 [1] ?_
 refine Go2.fn (i:=3) rfl (G0 rfl) (.val 3 [1,2] (RingP y)) (fun u μ ρ H=>by have e15:=H.r 15 2;have h0:=(H.a 2 rfl);obtain ⟨x0,x1,h1,h2⟩:=h0;rw [h1] at e15;exact ⟨x0,by clear H;go_simp,SP.tupKeep (by decide) (by decide) h2.1⟩) ?_
 refine .e rfl (V:=.bool true) (fun H=>by have e15:=H.r 15 2;have h0:=(H.a 2 rfl);obtain ⟨x0,x1,h1,h2,h3⟩:=h0;rw [h1] at e15;have h3:x1=.bool true:=h3;subst h3;clear H;go_simp) ?_
 refine .al rfl (#[.pointer none,.pointer none,.pointer none,.pointer none]) ?_
 refine Go2.storeOwn (i:=6) (m:=5) rfl rfl (.head _) (SP.cells 5 [3] (fun u=>#[((u 3).v.cells.getD 0 undef),((u 3).v.cells.getD 1 undef),((u 3).v.cells.getD 2 undef),((u 3).v.cells.getD 3 undef)]) 203 (by intro u u' h;simp [h 3 (by simp)])) (fun u μ ρ b H h0 hB hb=>?_) ?_
 · have e7:=H.r 7 5;have e18:=H.r 18 3
   rw [h0] at e7
   obtain ⟨x1,x2,x3,x4,h1,h2,h3,h4,h5⟩:=(H.a 3 rfl)
   have o1:=VP1.rat h2
   have o2:=VP1.ratn h3
   have o3:=VP1.ratn h4
   have o4:=VP1.rat h5
   rw [h1] at e18
   refine ⟨μ.setRow b #[x1,x2,x3,x4],ex_store_row 203 _ _ rfl e7 e18 hb (by kernel_rfl) rfl (by simp [o1,o2,o3,o4]<;>rfl),fun g=>⟨b,?_,hB,?_⟩,setRow_only _ _ _⟩
   · rw [upd_other _ _ (by decide)];exact h0
   · rw [setRow_at hb];try simp [upd,h1,Value.cells]
 refine .mv rfl 4 ?_
 refine .dk (fun u=>.slice (some ⟨b1,0,none⟩) 2 2::U::u1 0::u1 1::v34::U::u11 2::u 5::u 7::u3 0::u3 1::.int .i64 1::u10 0::u11 0::u11 1::u 2::u 0::u 1::u 3::u 4::u7 0::u7 1::u2 0::.agg #[pt b25,x26,x27,pt b28]::.slice (some ⟨b33,0,none⟩) 1 1::v34::.int .i64 1::us 4) K42 bel fun u12 w12 D bel=>?_
 obtain ⟨x43,x44,E12_1,F_x43,F_x44⟩:=(D.rr 1)
 obtain ⟨b45,x46,x47,b48,rfl,L45,L48,F45,F_x46,F_x47,F48⟩:=RingP.elim F_x43
 obtain rfl:x44=_:=F_x44
 obtain ⟨x49,x50,E12_2,F_x49,F_x50⟩:=(D.rr 2)
 obtain ⟨b51,x52,x53,b54,rfl,L51,L54,F51,F_x52,F_x53,F54⟩:=RingP.elim F_x49
 obtain rfl:x50=_:=F_x50
 obtain ⟨b55,x56,x57,b58,E12_3,L55,L58,F55,F_x56,F_x57,F58⟩:=RingP.elim (D.rr 3)
 obtain ⟨b59,E12_5,A59,B59⟩:=(D.a 6 rfl)
 replace A59:=le2 D.le A59
 have E12_0:=D.q 0
 have E12_4:=D.q 4
 have E12_7:=D.q 7
 replace B1:=D.k B1
 replace B41:=D.k B41
 simp only [Value.cells,E12_1,E12_2,E12_3,E12_5] at B59
 replace B59:w12.heap[b59]? = some (.cells #[pt b55,x56,x57,pt b58] 203 (0,0)):=B59
 replace F25:=D.o L25 F25
 replace F28:=D.o L28 F28
 replace O_v34:=own_low O_v34 (D.d.base.bel0 (RowKit.Below.refl _ _) (Nat.le_refl _))
 replace F_x26:=D.gr (RatN x.b.re) F_x26
 replace F_x27:=D.gr (RatN x.b.im) F_x27
 clear D
 refine wp_seq_k fun _ K60=>?_
 refine gs 2 (Amb S W) fun _ K61=>?_
 refine .mz rfl 8 E12_7 ?_
 refine .e rfl (V:=.bool false) (fun H=>x_not (H.g 20 0)) ?_
 refine .dk (fun u=>.slice (some ⟨b1,0,none⟩) 2 2::U::u1 0::u1 1::v34::U::u11 2::u12 5::u12 7::u3 0::u3 1::.int .i64 1::u10 0::u11 0::u11 1::u12 2::u12 0::u12 1::u12 3::u12 4::u 0::u 1::u2 0::.agg #[pt b25,x26,x27,pt b28]::.slice (some ⟨b33,0,none⟩) 1 1::v34::.int .i64 1::us 4) K61 bel fun u13 w13 D bel=>?_
 have E13_0:=D.q 0
 have E13_1:=D.q 1
 replace B1:=D.k B1
 replace B41:=D.k B41
 replace B59:=D.k B59
 replace F25:=D.o L25 F25
 replace F28:=D.o L28 F28
 replace F45:=D.o L45 F45
 replace F48:=D.o L48 F48
 replace F51:=D.o L51 F51
 replace F54:=D.o L54 F54
 replace F55:=D.o L55 F55
 replace F58:=D.o L58 F58
 replace O_v34:=own_low O_v34 (D.d.base.bel0 (RowKit.Below.refl _ _) (Nat.le_refl _))
 replace F_x26:=D.gr (RatN x.b.re) F_x26
 replace F_x27:=D.gr (RatN x.b.im) F_x27
 replace F_x46:=D.gr (RatN y.b.re) F_x46
 replace F_x47:=D.gr (RatN y.b.im) F_x47
 replace F_x52:=D.gr (RatN y.b.re) F_x52
 replace F_x53:=D.gr (RatN y.b.im) F_x53
 replace F_x56:=D.gr (RatN y.b.re) F_x56
 replace F_x57:=D.gr (RatN y.b.im) F_x57
 clear D
 refine wp_cond_false (by exact E13_1) ?_
 refine wp_skip ?_
 refine K60 _ _ ?_
 refine wp_region_list ?_
 refine wpT_val rfl (ex_move rfl) ?_
 refine wpList_as (fr (.slice (some ⟨b1,0,none⟩) 2 2::U::u1 0::u1 1::v34::U::u11 2::u12 5::u12 7::u3 0::u3 1::.int .i64 1::u10 0::u11 0::u11 1::u12 2::u12 0::u12 1::u12 3::u12 4::u13 0::u13 1::v34::.agg #[pt b25,x26,x27,pt b28]::.slice (some ⟨b33,0,none⟩) 1 1::v34::.int .i64 1::us 4)) (by kernel_rfl) ?_
 refine wpT_val (v:=.agg #[pt b55,x56,x57,pt b58]) rfl (ex_load_row 203 _ rfl (by exact E12_5) B59 Tryz.underlying203 rfl (by kernel_rfl)) ?_
 refine wpT_bs1 (e:=203) 4 (cs:=#[pt b55,x56,x57,pt b58]) rfl rfl rfl rfl (by kernel_rfl) (by kernel_rfl) (by decide) (by decide) rfl fun b63 w62 A63 B63 ow62=>?_
 have N1_63:=Nat.ne_of_lt (Nat.lt_of_lt_of_le (lt_of B1) A63)
 have N41_63:=Nat.ne_of_lt (Nat.lt_of_lt_of_le (lt_of B41) A63)
 have N59_63:=Nat.ne_of_lt (Nat.lt_of_lt_of_le (lt_of B59) A63)
 replace A63:=Nat.le_trans bel.size A63
 replace O_v34:=own_low O_v34 ow62
 replace B1:=(ow62.block b1 (lt_of B1)).trans B1
 replace B41:=(ow62.block b41 (lt_of B41)).trans B41
 replace B59:=(ow62.block b59 (lt_of B59)).trans B59
 replace F25:=(RatP x.a).grow (Rgn.Below.growS ow62 (Nat.le_refl _) _) F25
 replace F28:=(RatP x.c).grow (Rgn.Below.growS ow62 (Nat.le_refl _) _) F28
 replace F45:=(RatP y.a).grow (Rgn.Below.growS ow62 (Nat.le_refl _) _) F45
 replace F48:=(RatP y.c).grow (Rgn.Below.growS ow62 (Nat.le_refl _) _) F48
 replace F51:=(RatP y.a).grow (Rgn.Below.growS ow62 (Nat.le_refl _) _) F51
 replace F54:=(RatP y.c).grow (Rgn.Below.growS ow62 (Nat.le_refl _) _) F54
 replace F55:=(RatP y.a).grow (Rgn.Below.growS ow62 (Nat.le_refl _) _) F55
 replace F58:=(RatP y.c).grow (Rgn.Below.growS ow62 (Nat.le_refl _) _) F58
 replace F_x26:=(RatN x.b.re).grow (Rgn.Below.growS ow62 (Nat.le_refl _) _) F_x26
 replace F_x27:=(RatN x.b.im).grow (Rgn.Below.growS ow62 (Nat.le_refl _) _) F_x27
 replace F_x46:=(RatN y.b.re).grow (Rgn.Below.growS ow62 (Nat.le_refl _) _) F_x46
 replace F_x47:=(RatN y.b.im).grow (Rgn.Below.growS ow62 (Nat.le_refl _) _) F_x47
 replace F_x52:=(RatN y.b.re).grow (Rgn.Below.growS ow62 (Nat.le_refl _) _) F_x52
 replace F_x53:=(RatN y.b.im).grow (Rgn.Below.growS ow62 (Nat.le_refl _) _) F_x53
 replace F_x56:=(RatN y.b.re).grow (Rgn.Below.growS ow62 (Nat.le_refl _) _) F_x56
 replace F_x57:=(RatN y.b.im).grow (Rgn.Below.growS ow62 (Nat.le_refl _) _) F_x57
 replace bel:=bel.trans (ow62.mono bel.size)
 refine wpT_apR (n₀:=W.heap.size) 32 rfl rfl rfl rfl O_v34 B63 rfl (VP1.ratn F_x56) (VP1.ratn F_x57) rfl bel.size (by decide) (by kernel_rfl) (by kernel_rfl) (by decide) rfl fun v64 w65 O_v64 ow65 gw65=>?_
 replace F25:=(RatP x.a).grow (gw65 _) F25
 replace F28:=(RatP x.c).grow (gw65 _) F28
 replace F45:=(RatP y.a).grow (gw65 _) F45
 replace F48:=(RatP y.c).grow (gw65 _) F48
 replace F51:=(RatP y.a).grow (gw65 _) F51
 replace F54:=(RatP y.c).grow (gw65 _) F54
 replace F55:=(RatP y.a).grow (gw65 _) F55
 replace F58:=(RatP y.c).grow (gw65 _) F58
 replace F_x26:=(RatN x.b.re).grow (gw65 _) F_x26
 replace F_x27:=(RatN x.b.im).grow (gw65 _) F_x27
 replace F_x46:=(RatN y.b.re).grow (gw65 _) F_x46
 replace F_x47:=(RatN y.b.im).grow (gw65 _) F_x47
 replace F_x52:=(RatN y.b.re).grow (gw65 _) F_x52
 replace F_x53:=(RatN y.b.im).grow (gw65 _) F_x53
 replace F_x56:=(RatN y.b.re).grow (gw65 _) F_x56
 replace F_x57:=(RatN y.b.im).grow (gw65 _) F_x57
 replace B1:=(ow65.block _ X1).trans B1
 replace bel:=bel.trans ow65
 refine wpT_val rfl (ex_assign rfl) ?_
 refine wpList_as (fr (.slice (some ⟨b1,0,none⟩) 2 2::U::u1 0::u1 1::v64::U::u11 2::u12 5::u12 7::u3 0::u3 1::.int .i64 1::u10 0::u11 0::u11 1::u12 2::u12 0::u12 1::u12 3::u12 4::u13 0::u13 1::v34::.agg #[pt b55,x56,x57,pt b58]::.slice (some ⟨b63,0,none⟩) 1 1::v64::.int .i64 1::us 4)) (by kernel_rfl) ?_
 refine wpList_as (fr (.slice (some ⟨b1,0,none⟩) 2 2::U::u1 0::u1 1::v64::U::u11 2::u12 5::u12 7::u3 0::u3 1::.int .i64 1::u10 0::u11 0::u11 1::u12 2::u12 0::u12 1::u12 3::u12 4::u13 0::u13 1::v34::.agg #[pt b55,x56,x57,pt b58]::.slice (some ⟨b63,0,none⟩) 1 1::v64::.int .i64 1::us 4)) (by kernel_rfl) ?_
 refine wpList_nil ?_
 show _
 refine inBlock_normal ?_
 refine K39 _ _ ?_
 refine wp_region_list ?_
 refine wpT_val (v:=.int .i64 2) rfl (by have aw_:IntKind.wrap .i64 2=2:=(by decide);go_simp) ?_
 refine wpT_val rfl (ex_move rfl) ?_
 refine wpList_as (fr (.slice (some ⟨b1,0,none⟩) 2 2::U::u1 0::u1 1::v64::U::u11 2::u12 5::u12 7::u3 0::u3 1::.int .i64 2::u10 0::u11 0::u11 1::u12 2::u12 0::u12 1::u12 3::u12 4::u13 0::u13 1::v34::.agg #[pt b55,x56,x57,pt b58]::.slice (some ⟨b63,0,none⟩) 1 1::v64::.int .i64 2::us 4)) (by kernel_rfl) ?_
 refine wpList_nil ?_
 show _
 refine hK36 _ _ ?_
 refine rounds_k fun K66 hK66=>?_
 refine gs 1 (Amb S W) fun _ K67=>?_
 refine .e rfl (V:=.bool false) (fun H=>x_cmp (H.v 11 (.int .i64 2)) (H.z 10 E3_1)) ?_
 refine .dk (fun u=>.slice (some ⟨b1,0,none⟩) 2 2::U::u1 0::u1 1::v64::U::u11 2::u12 5::u12 7::u3 0::u3 1::.int .i64 2::u 0::u11 0::u11 1::u12 2::u12 0::u12 1::u12 3::u12 4::u13 0::u13 1::v34::.agg #[pt b55,x56,x57,pt b58]::.slice (some ⟨b63,0,none⟩) 1 1::v64::.int .i64 2::us 4) K67 bel fun u16 w16 D bel=>?_
 have E16_0:=D.q 0
 replace B1:=D.k B1
 replace F25:=D.o L25 F25
 replace F28:=D.o L28 F28
 replace F45:=D.o L45 F45
 replace F48:=D.o L48 F48
 replace F51:=D.o L51 F51
 replace F54:=D.o L54 F54
 replace F55:=D.o L55 F55
 replace F58:=D.o L58 F58
 replace O_v64:=own_low O_v64 (D.d.base.bel0 (RowKit.Below.refl _ _) (Nat.le_refl _))
 replace F_x26:=D.gr (RatN x.b.re) F_x26
 replace F_x27:=D.gr (RatN x.b.im) F_x27
 replace F_x46:=D.gr (RatN y.b.re) F_x46
 replace F_x47:=D.gr (RatN y.b.im) F_x47
 replace F_x52:=D.gr (RatN y.b.re) F_x52
 replace F_x53:=D.gr (RatN y.b.im) F_x53
 replace F_x56:=D.gr (RatN y.b.re) F_x56
 replace F_x57:=D.gr (RatN y.b.im) F_x57
 clear D
 refine wp_seq_k fun _ K68=>?_
 refine wp_cond_false (by exact E16_0) ?_
 refine wp_exit ?_
 refine then_exit ?_
 refine then_exit ?_
 refine inBlock_here ?_
 refine K4 _ _ ?_
 refine wp_seq_k fun _ K69=>?_
 refine gs 3 (Amb S W) fun _ K70=>?_
 refine .mz rfl 0 (V:=.slice (some ⟨b1,0,none⟩) 2 2) rfl ?_
 refine .e rfl (V:=.int .i64 2) (fun H=>x_lens (H.g 27 0)) ?_
 refine .e rfl (V:=.bool false) (fun H=>x_cmp (H.g 28 1) (H.c _)) ?_
 refine .dk (fun u=>.slice (some ⟨b1,0,none⟩) 2 2::U::u1 0::u1 1::v64::U::u11 2::u12 5::u12 7::u3 0::u3 1::.int .i64 2::u16 0::u11 0::u11 1::u12 2::u12 0::u12 1::u12 3::u12 4::u13 0::u13 1::v34::.agg #[pt b55,x56,x57,pt b58]::.slice (some ⟨b63,0,none⟩) 1 1::v64::.int .i64 2::sq u 0 3 (U::[])) K70 bel fun u17 w17 D bel=>?_
 have E17_2:=D.q 2
 replace F25:=D.o L25 F25
 replace F28:=D.o L28 F28
 replace F55:=D.o L55 F55
 replace F58:=D.o L58 F58
 replace O_v64:=own_low O_v64 (D.d.base.bel0 (RowKit.Below.refl _ _) (Nat.le_refl _))
 replace F_x26:=D.gr (RatN x.b.re) F_x26
 replace F_x27:=D.gr (RatN x.b.im) F_x27
 replace F_x56:=D.gr (RatN y.b.re) F_x56
 replace F_x57:=D.gr (RatN y.b.im) F_x57
 clear D
 refine wp_cond_false (by exact E17_2) ?_
 refine wp_skip ?_
 refine K69 _ _ ?_
 refine gs 3 (Amb S W) fun _ K71=>?_
 refine .mz rfl 4 (V:=v64) rfl ?_
 refine .mv rfl 0 ?_
 refine .mc rfl ?_
 refine .dk (fun u=>.slice (some ⟨b1,0,none⟩) 2 2::U::u 1::u 2::v64::U::u11 2::u12 5::u12 7::u3 0::u3 1::.int .i64 2::u16 0::u11 0::u11 1::u12 2::u12 0::u12 1::u12 3::u12 4::u13 0::u13 1::v34::.agg #[pt b55,x56,x57,pt b58]::.slice (some ⟨b63,0,none⟩) 1 1::v64::.int .i64 2::sq u17 0 3 (u 0::[])) K71 bel fun u18 w18 D bel=>?_
 have E18_1:=D.q 1
 have E18_2:=D.q 2
 replace F25:=D.o L25 F25
 replace F28:=D.o L28 F28
 replace F55:=D.o L55 F55
 replace F58:=D.o L58 F58
 replace O_v64:=own_low O_v64 (D.d.base.bel0 (RowKit.Below.refl _ _) (Nat.le_refl _))
 replace F_x26:=D.gr (RatN x.b.re) F_x26
 replace F_x27:=D.gr (RatN x.b.im) F_x27
 replace F_x56:=D.gr (RatN y.b.re) F_x56
 replace F_x57:=D.gr (RatN y.b.im) F_x57
 clear D
 refine wp_ret ?_
 obtain ⟨b_,cap_,cur_,e_,hb_,hB_,hq_⟩:=own_open O_v64 (by decide)
 subst e_
 exact ret_ok rfl (by exact results_two rfl (by exact E18_1) (by exact E18_2)) ⟨b_,cap_,cur_,_,rfl,hb_,hB_,hq_,⟨(RingP.mk (VP.at F25 L25) F_x26 F_x27 (VP.at F28 L28)),⟨(RingP.mk (VP.at F55 L55) F_x56 F_x57 (VP.at F58 L58)),trivial⟩⟩,bel⟩
theorem ivWhB {b1:Nat} (x:Ci) (q:RCi) (B1:W.heap[b1]? = some (.cells #[.bool (decide (x.a.num<0)),.string (bS x.a.num.natAbs),.bool (decide ((x.a.den:Int)<0)),.string (bS (x.a.den:Int).natAbs),.bool (decide (x.b.re.num<0)),.string (bS x.b.re.num.natAbs),.bool (decide ((x.b.re.den:Int)<0)),.string (bS (x.b.re.den:Int).natAbs),.bool (decide (x.b.im.num<0)),.string (bS x.b.im.num.natAbs),.bool (decide ((x.b.im.den:Int)<0)),.string (bS (x.b.im.den:Int).natAbs),.bool (decide (x.c.num<0)),.string (bS x.c.num.natAbs),.bool (decide ((x.c.den:Int)<0)),.string (bS (x.c.den:Int).natAbs),.bool q.a.a.n,.string q.a.a.s,.bool q.a.b.n,.string q.a.b.s,.bool q.b.re.a.n,.string q.b.re.a.s,.bool q.b.re.b.n,.string q.b.re.b.s,.bool q.b.im.a.n,.string q.b.im.a.s,.bool q.b.im.b.n,.string q.b.im.b.s,.bool q.c.a.n,.string q.c.a.s,.bool q.c.b.n,.string q.c.b.s] 47 (0,0))) (p0:ciOk (rci x)=true) (p1:ciOk q=false) :
  Calls Tryz.prog 160 #[.slice (some ⟨b1,0,none⟩) 2 2] W (RetV (.tuple #[.slice none 0 0,.int .i64 2]) W):=by
 have X1:=lt_of B1
 have bel:=b0 W
 go_enter Tryz.func160,Tryz.ntmps160
 refine gs 2 (Amb Z0 W) fun _ K2=>?_
 refine .mc rfl ?_
 refine .mc rfl ?_
 refine .dk (fun u=>.slice (some ⟨b1,0,none⟩) 2 2::U::u 0::u 1::us 27) K2 bel fun u1 w1 D bel=>?_
 have E1_0:=D.q 0
 have E1_1:=D.q 1
 replace B1:=D.k B1
 clear D
 refine gs 1 (Amb Z0 W) fun _ K3=>?_
 refine .mc rfl ?_
 refine .dk (fun u=>.slice (some ⟨b1,0,none⟩) 2 2::U::u1 0::u1 1::u 0::us 26) K3 bel fun u2 w2 D bel=>?_
 have E2_0:=D.q 0
 replace B1:=D.k B1
 clear D
 refine wp_seq_k fun _ K4=>?_
 refine gs 3 (Amb Z0 W) fun _ K5=>?_
 refine .mz rfl 0 (V:=.slice (some ⟨b1,0,none⟩) 2 2) rfl ?_
 refine .e rfl (V:=.int .i64 2) (fun H=>x_lens (H.g 9 0)) ?_
 refine .mc rfl ?_
 refine .dk (fun u=>.slice (some ⟨b1,0,none⟩) 2 2::U::u1 0::u1 1::u2 0::U::U::U::U::sq u 0 3 (us 19)) K5 bel fun u3 w3 D bel=>?_
 have E3_0:=D.q 0
 have E3_1:=D.q 1
 have E3_2:=D.q 2
 replace B1:=D.k B1
 clear D
 refine wp_block ?_
 refine wp_loop_rounds 3 ?_
 refine rounds_k fun K6 hK6=>?_
 refine gs 1 (Amb Z0 W) fun _ K7=>?_
 refine .e rfl (V:=.bool true) (fun H=>x_cmp (H.z 11 E3_2) (H.z 10 E3_1)) ?_
 refine .dk (fun u=>.slice (some ⟨b1,0,none⟩) 2 2::U::u1 0::u1 1::u2 0::U::U::U::U::sq u3 0 3 (u 0::us 18)) K7 bel fun u4 w4 D bel=>?_
 have E4_0:=D.q 0
 replace B1:=D.k B1
 clear D
 refine wp_seq_k fun _ K8=>?_
 refine wp_cond_true (by exact E4_0) ?_
 refine wp_skip ?_
 refine K8 _ _ ?_
 refine wp_seq_k fun _ K9=>?_
 refine wp_block ?_
 refine gs 4 (Amb Z0 W) fun _ K10=>?_
 refine .e rfl (V:=pt b1) (fun H=>x_ixs 16 (H.z 9 E3_0) (H.z 11 E3_2)) ?_
 refine .lp rfl 0 (ciC x) B1 ?_
 refine .al rfl zCi ?_
 refine .so rfl 2 (fun H=>⟨H.r 6 2,H.g 14 1⟩) ?_
 refine .dk (fun u=>.slice (some ⟨b1,0,none⟩) 2 2::U::u1 0::u1 1::u2 0::U::u 2::U::U::sq u3 0 3 (u4 0::u 0::u 1::us 16)) K10 bel fun u5 w5 D bel=>?_
 obtain ⟨b11,E5_2,A11,B11⟩:=D.st 3
 have E5_0:=D.q 0
 have E5_1:=D.q 1
 replace B1:=D.k B1
 clear D
 refine gs 8 (Amb Z0 W) fun _ K12=>?_
 refine .lr rfl 6 E5_2 B11 ?_
 refine .cR rfl [] Tryz.func155 (fun H=>⟨_,ar1 (H.g 16 0),eWheelO _ (by first|omega|assumption)⟩) ?_
 refine .mn rfl 1 [1] ?_
 refine Go2.fn (i:=3) rfl (G0 rfl) (.val 3 [1,2] (RingP x)) (fun u μ ρ H=>by have e15:=H.r 15 2;have h0:=(H.a 2 rfl);obtain ⟨x0,x1,h1,h2⟩:=h0;rw [h1] at e15;exact ⟨x0,by clear H;go_simp,SP.tupKeep (by decide) (by decide) h2.1⟩) ?_
 refine .e rfl (V:=.bool true) (fun H=>by have e15:=H.r 15 2;have h0:=(H.a 2 rfl);obtain ⟨x0,x1,h1,h2,h3⟩:=h0;rw [h1] at e15;have h3:x1=.bool true:=h3;subst h3;clear H;go_simp) ?_
 refine .al rfl (#[.pointer none,.pointer none,.pointer none,.pointer none]) ?_
 refine Go2.storeOwn (i:=6) (m:=5) rfl rfl (.head _) (SP.cells 5 [3] (fun u=>#[((u 3).v.cells.getD 0 undef),((u 3).v.cells.getD 1 undef),((u 3).v.cells.getD 2 undef),((u 3).v.cells.getD 3 undef)]) 203 (by intro u u' h;simp [h 3 (by simp)])) (fun u μ ρ b H h0 hB hb=>?_) ?_
 · have e7:=H.r 7 5;have e18:=H.r 18 3
   rw [h0] at e7
   obtain ⟨x1,x2,x3,x4,h1,h2,h3,h4,h5⟩:=(H.a 3 rfl)
   have o1:=VP1.rat h2
   have o2:=VP1.ratn h3
   have o3:=VP1.ratn h4
   have o4:=VP1.rat h5
   rw [h1] at e18
   refine ⟨μ.setRow b #[x1,x2,x3,x4],ex_store_row 203 _ _ rfl e7 e18 hb (by kernel_rfl) rfl (by simp [o1,o2,o3,o4]<;>rfl),fun g=>⟨b,?_,hB,?_⟩,setRow_only _ _ _⟩
   · rw [upd_other _ _ (by decide)];exact h0
   · rw [setRow_at hb];try simp [upd,h1,Value.cells]
 refine .mv rfl 4 ?_
 refine .dk (fun u=>.slice (some ⟨b1,0,none⟩) 2 2::U::u1 0::u1 1::u2 0::U::u5 2::u 5::u 7::sq u3 0 3 (u4 0::u5 0::u5 1::u 2::u 0::u 1::u 3::u 4::us 11)) K12 bel fun u6 w6 D bel=>?_
 obtain ⟨x13,x14,E6_1,F_x13,F_x14⟩:=(D.rr 1)
 obtain ⟨b15,x16,x17,b18,rfl,L15,L18,F15,F_x16,F_x17,F18⟩:=RingP.elim F_x13
 obtain rfl:x14=_:=F_x14
 obtain ⟨x19,x20,E6_2,F_x19,F_x20⟩:=(D.rr 2)
 obtain ⟨b21,x22,x23,b24,rfl,L21,L24,F21,F_x22,F_x23,F24⟩:=RingP.elim F_x19
 obtain rfl:x20=_:=F_x20
 obtain ⟨b25,x26,x27,b28,E6_3,L25,L28,F25,F_x26,F_x27,F28⟩:=RingP.elim (D.rr 3)
 obtain ⟨b29,E6_5,A29,B29⟩:=(D.a 6 rfl)
 replace A29:=le2 D.le A29
 have E6_0:=D.q 0
 have E6_4:=D.q 4
 have E6_7:=D.q 7
 replace B1:=D.k B1
 replace B11:=D.k B11
 simp only [Value.cells,E6_1,E6_2,E6_3,E6_5] at B29
 replace B29:w6.heap[b29]? = some (.cells #[pt b25,x26,x27,pt b28] 203 (0,0)):=B29
 clear D
 refine wp_seq_k fun _ K30=>?_
 refine gs 2 (Amb Z0 W) fun _ K31=>?_
 refine .mz rfl 8 E6_7 ?_
 refine .e rfl (V:=.bool false) (fun H=>x_not (H.g 20 0)) ?_
 refine .dk (fun u=>.slice (some ⟨b1,0,none⟩) 2 2::U::u1 0::u1 1::u2 0::U::u5 2::u6 5::u6 7::sq u3 0 3 (u4 0::u5 0::u5 1::u6 2::u6 0::u6 1::u6 3::u6 4::u 0::u 1::us 9)) K31 bel fun u7 w7 D bel=>?_
 have E7_0:=D.q 0
 have E7_1:=D.q 1
 replace B1:=D.k B1
 replace B11:=D.k B11
 replace B29:=D.k B29
 replace F15:=D.o L15 F15
 replace F18:=D.o L18 F18
 replace F21:=D.o L21 F21
 replace F24:=D.o L24 F24
 replace F25:=D.o L25 F25
 replace F28:=D.o L28 F28
 replace F_x16:=D.gr (RatN x.b.re) F_x16
 replace F_x17:=D.gr (RatN x.b.im) F_x17
 replace F_x22:=D.gr (RatN x.b.re) F_x22
 replace F_x23:=D.gr (RatN x.b.im) F_x23
 replace F_x26:=D.gr (RatN x.b.re) F_x26
 replace F_x27:=D.gr (RatN x.b.im) F_x27
 clear D
 refine wp_cond_false (by exact E7_1) ?_
 refine wp_skip ?_
 refine K30 _ _ ?_
 refine wp_region_list ?_
 refine wpT_val rfl (ex_move rfl) ?_
 refine wpT_val (v:=.agg #[pt b25,x26,x27,pt b28]) rfl (ex_load_row 203 _ rfl (by exact E6_5) B29 Tryz.underlying203 rfl (by kernel_rfl)) ?_
 refine wpT_bs1 (e:=203) 4 (cs:=#[pt b25,x26,x27,pt b28]) rfl rfl rfl rfl (by kernel_rfl) (by kernel_rfl) (by decide) (by decide) rfl fun b33 w32 A33 B33 ow32=>?_
 have N1_33:=Nat.ne_of_lt (Nat.lt_of_lt_of_le (lt_of B1) A33)
 have N11_33:=Nat.ne_of_lt (Nat.lt_of_lt_of_le (lt_of B11) A33)
 have N29_33:=Nat.ne_of_lt (Nat.lt_of_lt_of_le (lt_of B29) A33)
 replace A33:=Nat.le_trans bel.size A33
 replace B1:=(ow32.block b1 (lt_of B1)).trans B1
 replace B11:=(ow32.block b11 (lt_of B11)).trans B11
 replace B29:=(ow32.block b29 (lt_of B29)).trans B29
 replace F15:=(RatP x.a).grow (Rgn.Below.growS ow32 (Nat.le_refl _) _) F15
 replace F18:=(RatP x.c).grow (Rgn.Below.growS ow32 (Nat.le_refl _) _) F18
 replace F21:=(RatP x.a).grow (Rgn.Below.growS ow32 (Nat.le_refl _) _) F21
 replace F24:=(RatP x.c).grow (Rgn.Below.growS ow32 (Nat.le_refl _) _) F24
 replace F25:=(RatP x.a).grow (Rgn.Below.growS ow32 (Nat.le_refl _) _) F25
 replace F28:=(RatP x.c).grow (Rgn.Below.growS ow32 (Nat.le_refl _) _) F28
 replace F_x16:=(RatN x.b.re).grow (Rgn.Below.growS ow32 (Nat.le_refl _) _) F_x16
 replace F_x17:=(RatN x.b.im).grow (Rgn.Below.growS ow32 (Nat.le_refl _) _) F_x17
 replace F_x22:=(RatN x.b.re).grow (Rgn.Below.growS ow32 (Nat.le_refl _) _) F_x22
 replace F_x23:=(RatN x.b.im).grow (Rgn.Below.growS ow32 (Nat.le_refl _) _) F_x23
 replace F_x26:=(RatN x.b.re).grow (Rgn.Below.growS ow32 (Nat.le_refl _) _) F_x26
 replace F_x27:=(RatN x.b.im).grow (Rgn.Below.growS ow32 (Nat.le_refl _) _) F_x27
 replace bel:=bel.trans (ow32.mono bel.size)
 refine wpT_apR (n₀:=W.heap.size) 32 rfl rfl (by exact E2_0) rfl (World.ownsRow_nil _ _ _ _) B33 rfl (VP1.ratn F_x26) (VP1.ratn F_x27) rfl bel.size (by decide) (by kernel_rfl) (by kernel_rfl) (by decide) rfl fun v34 w35 O_v34 ow35 gw35=>?_
 replace F15:=(RatP x.a).grow (gw35 _) F15
 replace F18:=(RatP x.c).grow (gw35 _) F18
 replace F21:=(RatP x.a).grow (gw35 _) F21
 replace F24:=(RatP x.c).grow (gw35 _) F24
 replace F25:=(RatP x.a).grow (gw35 _) F25
 replace F28:=(RatP x.c).grow (gw35 _) F28
 replace F_x16:=(RatN x.b.re).grow (gw35 _) F_x16
 replace F_x17:=(RatN x.b.im).grow (gw35 _) F_x17
 replace F_x22:=(RatN x.b.re).grow (gw35 _) F_x22
 replace F_x23:=(RatN x.b.im).grow (gw35 _) F_x23
 replace F_x26:=(RatN x.b.re).grow (gw35 _) F_x26
 replace F_x27:=(RatN x.b.im).grow (gw35 _) F_x27
 replace B1:=(ow35.block _ X1).trans B1
 replace bel:=bel.trans ow35
 refine wpList_as (fr (.slice (some ⟨b1,0,none⟩) 2 2::U::u1 0::u1 1::u2 0::U::u5 2::u6 5::u6 7::sq u3 0 3 (u4 0::u5 0::u5 1::u6 2::u6 0::u6 1::u6 3::u6 4::u7 0::u7 1::u2 0::.agg #[pt b25,x26,x27,pt b28]::.slice (some ⟨b33,0,none⟩) 1 1::v34::us 5))) (by kernel_rfl) ?_
 refine wpT_val rfl (ex_assign rfl) ?_
 refine wpList_as (fr (.slice (some ⟨b1,0,none⟩) 2 2::U::u1 0::u1 1::v34::U::u5 2::u6 5::u6 7::sq u3 0 3 (u4 0::u5 0::u5 1::u6 2::u6 0::u6 1::u6 3::u6 4::u7 0::u7 1::u2 0::.agg #[pt b25,x26,x27,pt b28]::.slice (some ⟨b33,0,none⟩) 1 1::v34::us 5))) (by kernel_rfl) ?_
 refine wpList_nil ?_
 show _
 refine inBlock_normal ?_
 refine K9 _ _ ?_
 refine wp_region_list ?_
 refine wpT_val (v:=.int .i64 1) rfl (by have aw_:IntKind.wrap .i64 1=1:=(by decide);have:=E3_2;go_simp) ?_
 refine wpT_val rfl (ex_move rfl) ?_
 refine wpList_as (fr (.slice (some ⟨b1,0,none⟩) 2 2::U::u1 0::u1 1::v34::U::u5 2::u6 5::u6 7::u3 0::u3 1::.int .i64 1::u4 0::u5 0::u5 1::u6 2::u6 0::u6 1::u6 3::u6 4::u7 0::u7 1::u2 0::.agg #[pt b25,x26,x27,pt b28]::.slice (some ⟨b33,0,none⟩) 1 1::v34::.int .i64 1::us 4)) (by kernel_rfl) ?_
 refine wpList_nil ?_
 show _
 refine hK6 _ _ ?_
 refine rounds_k fun K36 hK36=>?_
 refine gs 1 (Amb Z0 W) fun _ K37=>?_
 refine .e rfl (V:=.bool true) (fun H=>x_cmp (H.v 11 (.int .i64 1)) (H.z 10 E3_1)) ?_
 refine .dk (fun u=>.slice (some ⟨b1,0,none⟩) 2 2::U::u1 0::u1 1::v34::U::u5 2::u6 5::u6 7::u3 0::u3 1::.int .i64 1::u 0::u5 0::u5 1::u6 2::u6 0::u6 1::u6 3::u6 4::u7 0::u7 1::u2 0::.agg #[pt b25,x26,x27,pt b28]::.slice (some ⟨b33,0,none⟩) 1 1::v34::.int .i64 1::us 4) K37 bel fun u10 w10 D bel=>?_
 have E10_0:=D.q 0
 replace B1:=D.k B1
 replace F15:=D.o L15 F15
 replace F18:=D.o L18 F18
 replace F21:=D.o L21 F21
 replace F24:=D.o L24 F24
 replace F25:=D.o L25 F25
 replace F28:=D.o L28 F28
 replace O_v34:=own_low O_v34 (D.d.base.bel0 (RowKit.Below.refl _ _) (Nat.le_refl _))
 replace F_x16:=D.gr (RatN x.b.re) F_x16
 replace F_x17:=D.gr (RatN x.b.im) F_x17
 replace F_x22:=D.gr (RatN x.b.re) F_x22
 replace F_x23:=D.gr (RatN x.b.im) F_x23
 replace F_x26:=D.gr (RatN x.b.re) F_x26
 replace F_x27:=D.gr (RatN x.b.im) F_x27
 clear D
 refine wp_seq_k fun _ K38=>?_
 refine wp_cond_true (by exact E10_0) ?_
 refine wp_skip ?_
 refine K38 _ _ ?_
 refine wp_seq_k fun _ K39=>?_
 refine wp_block ?_
 refine gs 4 (Amb Z0 W) fun _ K40=>?_
 refine .e rfl (V:=.pointer (some ⟨b1,16,none⟩)) (fun H=>x_ixs 16 (H.z 9 E3_0) (H.v 11 (.int .i64 1))) ?_
 refine .lp rfl 0 (rciC q) B1 ?_
 refine .al rfl zCi ?_
 refine .so rfl 2 (fun H=>⟨H.r 6 2,H.g 14 1⟩) ?_
 refine .dk (fun u=>.slice (some ⟨b1,0,none⟩) 2 2::U::u1 0::u1 1::v34::U::u 2::u6 5::u6 7::u3 0::u3 1::.int .i64 1::u10 0::u 0::u 1::u6 2::u6 0::u6 1::u6 3::u6 4::u7 0::u7 1::u2 0::.agg #[pt b25,x26,x27,pt b28]::.slice (some ⟨b33,0,none⟩) 1 1::v34::.int .i64 1::us 4) K40 bel fun u11 w11 D bel=>?_
 obtain ⟨b41,E11_2,A41,B41⟩:=D.st 3
 have E11_0:=D.q 0
 have E11_1:=D.q 1
 replace B1:=D.k B1
 replace F15:=D.o L15 F15
 replace F18:=D.o L18 F18
 replace F21:=D.o L21 F21
 replace F24:=D.o L24 F24
 replace F25:=D.o L25 F25
 replace F28:=D.o L28 F28
 replace O_v34:=own_low O_v34 (D.d.base.bel0 (RowKit.Below.refl _ _) (Nat.le_refl _))
 replace F_x16:=D.gr (RatN x.b.re) F_x16
 replace F_x17:=D.gr (RatN x.b.im) F_x17
 replace F_x22:=D.gr (RatN x.b.re) F_x22
 replace F_x23:=D.gr (RatN x.b.im) F_x23
 replace F_x26:=D.gr (RatN x.b.re) F_x26
 replace F_x27:=D.gr (RatN x.b.im) F_x27
 clear D
 refine gs 8 (Amb Z0 W) fun _ K42=>?_
 refine .lr rfl 6 E11_2 B41 ?_
 refine .cR rfl [] Tryz.func155 (fun H=>⟨_,ar1 (H.g 16 0),eWheelN _ (by first|omega|assumption)⟩) ?_
 refine .mn rfl 1 [1] ?_
 refine Go2.fn (i:=3) rfl (G0 rfl) (.val 3 [1,2] (RingJ 0)) (fun u μ ρ H=>by have e15:=H.r 15 2;have h0:=(H.a 2 rfl);obtain ⟨x0,x1,h1,h2⟩:=h0;rw [h1] at e15;exact ⟨x0,by clear H;go_simp,SP.tupKeep (by decide) (by decide) h2.1⟩) ?_
 refine .e rfl (V:=.bool false) (fun H=>by have e15:=H.r 15 2;have h0:=(H.a 2 rfl);obtain ⟨x0,x1,h1,h2,h3⟩:=h0;rw [h1] at e15;have h3:x1=.bool false:=h3;subst h3;clear H;go_simp) ?_
 refine .al rfl (#[.pointer none,.pointer none,.pointer none,.pointer none]) ?_
 refine Go2.storeOwn (i:=6) (m:=5) rfl rfl (.head _) (SP.cells 5 [3] (fun u=>#[((u 3).v.cells.getD 0 undef),((u 3).v.cells.getD 1 undef),((u 3).v.cells.getD 2 undef),((u 3).v.cells.getD 3 undef)]) 203 (by intro u u' h;simp [h 3 (by simp)])) (fun u μ ρ b H h0 hB hb=>?_) ?_
 · have e7:=H.r 7 5;have e18:=H.r 18 3
   rw [h0] at e7
   obtain ⟨x1,x2,x3,x4,h1,h2,h3,h4,h5⟩:=(H.a 3 rfl)
   have o1:=VP1.ptr h2
   have o2:=VP1.ptr h3
   have o3:=VP1.ptr h4
   have o4:=VP1.ptr h5
   rw [h1] at e18
   refine ⟨μ.setRow b #[x1,x2,x3,x4],ex_store_row 203 _ _ rfl e7 e18 hb (by kernel_rfl) rfl (by simp [o1,o2,o3,o4]<;>rfl),fun g=>⟨b,?_,hB,?_⟩,setRow_only _ _ _⟩
   · rw [upd_other _ _ (by decide)];exact h0
   · rw [setRow_at hb];try simp [upd,h1,Value.cells]
 refine .mv rfl 4 ?_
 refine .dk (fun u=>.slice (some ⟨b1,0,none⟩) 2 2::U::u1 0::u1 1::v34::U::u11 2::u 5::u 7::u3 0::u3 1::.int .i64 1::u10 0::u11 0::u11 1::u 2::u 0::u 1::u 3::u 4::u7 0::u7 1::u2 0::.agg #[pt b25,x26,x27,pt b28]::.slice (some ⟨b33,0,none⟩) 1 1::v34::.int .i64 1::us 4) K42 bel fun u12 w12 D bel=>?_
 obtain ⟨x43,x44,E12_1,F_x43,F_x44⟩:=(D.rr 1)
 obtain ⟨x45,x46,x47,x48,rfl,F_x45,F_x46,F_x47,F_x48⟩:=F_x43
 obtain rfl:x44=_:=F_x44
 obtain ⟨x49,x50,E12_2,F_x49,F_x50⟩:=(D.rr 2)
 obtain ⟨x51,x52,x53,x54,rfl,F_x51,F_x52,F_x53,F_x54⟩:=F_x49
 obtain rfl:x50=_:=F_x50
 obtain ⟨x55,x56,x57,x58,E12_3,F_x55,F_x56,F_x57,F_x58⟩:=(D.rr 3)
 obtain ⟨b59,E12_5,A59,B59⟩:=(D.a 6 rfl)
 replace A59:=le2 D.le A59
 have E12_0:=D.q 0
 have E12_4:=D.q 4
 have E12_7:=D.q 7
 replace B1:=D.k B1
 replace B41:=D.k B41
 simp only [Value.cells,E12_1,E12_2,E12_3,E12_5] at B59
 replace B59:w12.heap[b59]? = some (.cells #[x55,x56,x57,x58] 203 (0,0)):=B59
 replace F25:=D.o L25 F25
 replace F28:=D.o L28 F28
 replace O_v34:=own_low O_v34 (D.d.base.bel0 (RowKit.Below.refl _ _) (Nat.le_refl _))
 replace F_x26:=D.gr (RatN x.b.re) F_x26
 replace F_x27:=D.gr (RatN x.b.im) F_x27
 clear D
 refine wp_seq_k fun _ K60=>?_
 refine gs 2 (Amb Z0 W) fun _ K61=>?_
 refine .mz rfl 8 E12_7 ?_
 refine .e rfl (V:=.bool true) (fun H=>x_not (H.g 20 0)) ?_
 refine .dk (fun u=>.slice (some ⟨b1,0,none⟩) 2 2::U::u1 0::u1 1::v34::U::u11 2::u12 5::u12 7::u3 0::u3 1::.int .i64 1::u10 0::u11 0::u11 1::u12 2::u12 0::u12 1::u12 3::u12 4::u 0::u 1::u2 0::.agg #[pt b25,x26,x27,pt b28]::.slice (some ⟨b33,0,none⟩) 1 1::v34::.int .i64 1::us 4) K61 bel fun u13 w13 D bel=>?_
 have E13_0:=D.q 0
 have E13_1:=D.q 1
 replace B1:=D.k B1
 replace B41:=D.k B41
 replace B59:=D.k B59
 replace F25:=D.o L25 F25
 replace F28:=D.o L28 F28
 replace O_v34:=own_low O_v34 (D.d.base.bel0 (RowKit.Below.refl _ _) (Nat.le_refl _))
 replace F_x26:=D.gr (RatN x.b.re) F_x26
 replace F_x27:=D.gr (RatN x.b.im) F_x27
 replace F_x45:=D.gr (PtrP 0) F_x45
 replace F_x46:=D.gr (PtrP 0) F_x46
 replace F_x47:=D.gr (PtrP 0) F_x47
 replace F_x48:=D.gr (PtrP 0) F_x48
 replace F_x51:=D.gr (PtrP 0) F_x51
 replace F_x52:=D.gr (PtrP 0) F_x52
 replace F_x53:=D.gr (PtrP 0) F_x53
 replace F_x54:=D.gr (PtrP 0) F_x54
 replace F_x55:=D.gr (PtrP 0) F_x55
 replace F_x56:=D.gr (PtrP 0) F_x56
 replace F_x57:=D.gr (PtrP 0) F_x57
 replace F_x58:=D.gr (PtrP 0) F_x58
 clear D
 refine wp_cond_true (by exact E13_1) ?_
 refine gs 2 (Amb Z0 W) fun _ K62=>?_
 refine .mc rfl ?_
 refine .mc rfl ?_
 refine .dk (fun u=>.slice (some ⟨b1,0,none⟩) 2 2::U::u 0::u 1::v34::U::u11 2::u12 5::u12 7::u3 0::u3 1::.int .i64 1::u10 0::u11 0::u11 1::u12 2::u12 0::u12 1::u12 3::u12 4::u13 0::u13 1::u2 0::.agg #[pt b25,x26,x27,pt b28]::.slice (some ⟨b33,0,none⟩) 1 1::v34::.int .i64 1::us 4) K62 bel fun u14 w14 D bel=>?_
 have E14_0:=D.q 0
 have E14_1:=D.q 1
 replace O_v34:=own_low O_v34 (D.d.base.bel0 (RowKit.Below.refl _ _) (Nat.le_refl _))
 clear D
 refine wp_ret ?_
 refine ret_ok rfl (by exact results_two rfl (by exact E14_0) (by exact E14_1)) (RetV.mk ?_ bel)
 exact congrArg Ending.returned (rfl)
end Go.Proofs.YtcpjdjnaipbieaaGreat
namespace Go.Proofs.YtcpjdjnaipbieaaGreat
open Go.RowKit Rgn
@[reducible] def Exc (b:Nat) (φ:VP):VP:=⟨fun S v w=>φ.p (fun k=>S k∧k≠b) v w,fun hS h=>φ.mono (fun k hk h=>⟨hS k hk h.1,h.2⟩) h,fun {S v w w'} hg h =>
 φ.grow ⟨hg.os,hg.tape,hg.output,hg.size,fun k hk=>(hg.block k hk).imp id (fun h=>h.imp id (fun h=>⟨h.1,fun hS=>h.2 hS.1⟩))⟩ h⟩
@[reducible] def Lss (n:Nat) (φ:VP):VP:=⟨fun S v w=>φ.p (fun k=>S k∧k<n) v w,fun hS h=>φ.mono (fun k hk h=>⟨hS k hk h.1,h.2⟩) h,fun {S v w w'} hg h =>
 φ.grow ⟨hg.os,hg.tape,hg.output,hg.size,fun k hk=>(hg.block k hk).imp id (fun h=>h.imp id (fun h=>⟨h.1,fun hS=>h.2 hS.1⟩))⟩ h⟩
theorem Lss.of (φ:VP) {S:Nat→Prop} {v:Value} {w:World} (h:φ.p S v w):(Lss w.heap.size φ).p S v w:=VP.inS φ (Nat.le_refl _) h
theorem Exc.of {n b:Nat} (φ:VP) {S:Nat→Prop} {v:Value} {w:World} (hn:∀ k,k<n→k≠b) (h:(Lss n φ).p S v w):(Exc b φ).p S v w:=φ.mono (fun k _ h=>⟨h.1,hn k h.2⟩) h
end Go.Proofs.YtcpjdjnaipbieaaGreat
namespace Go.Proofs.YtcpjdjnaipbieaaGreat
open Go.RowKit Rgn Eng
set_option maxHeartbeats 8000000
set_option maxRecDepth 100000
variable {S:Nat→Prop} {W:World}
theorem ivProd {v0 v1:Value} (c:Ci) (d:Ci) (t0:(RingP c).p S v0 W) (t1:(RingP d).p S v1 W) (p0:ht c.a+ht c.b.re+ht c.b.im+ht c.c+(ht d.a+ht d.b.re+ht d.b.im+ht d.c)≤67108864):Calls Tryz.prog 161 #[v0,v1] W (Ret (RatP (c.dot d)) S W):=by
 have z2:ht (Rat.divInt (1:Int) (2:Int))=3:=by decide
 have h1:=ht_mul c.a d.c
 have h2:=ht_mul d.a c.c
 have h3:=hc_conj d.b
 have h4:=hc_mul c.b d.b.conj
 have h5:=ht_add (c.a*d.c) (d.a*c.c)
 have h6:=ht_mul (c.a*d.c+d.a*c.c) (Rat.divInt (1:Int) (2:Int))
 refine Run.goP (S:=S) ((Pack.nil.s spRing t0).s spRing t1) Tryz.func161 rfl ?_
 refine Run.dr ?_
 refine RunD.cO 3 softRat (fun _ _ _ H=>qMul c.a d.c (RatP.blk (H.oz 3)) (anyV (H.f 0)) (anyV (H.f 7)) (by first|omega|(dsimp only at *;omega))) ?_
 refine RunD.cO 4 softRat (fun _ _ _ H=>qMul d.a c.c (RatP.blk (H.oz 4)) (anyV (H.f 4)) (anyV (H.f 3)) (by first|omega|(dsimp only at *;omega))) ?_
 refine RunD.cO 2 softRat (fun _ _ _ H=>qAdd (c.a*d.c) (d.a*c.c) (RatP.blk (H.oz 2)) (anyV (H.o 3)) (anyV (H.o 4)) (by first|omega|(dsimp only at *;omega))) ?_
 refine RunD.en ?_
 refine Run.dr ?_
 refine RunD.cR spNum (fun _ _ _ H=>eConj d.b (NumP.mk (H.f 5) (H.f 6)) (by first|omega|(dsimp only at *;omega))) ?_
 refine RunD.cR spNum (fun _ _ _ H=>eNMul c.b d.b.conj (NumP.mk (H.f 1) (H.f 2)) (NumP.mk (H.f 11) (H.f 12)) (by first|omega|(dsimp only at *;omega))) ?_
 refine RunD.cR sp2Rat (fun _ _ _ H=>eParts (c.b.mul d.b.conj) (NumP.mk (H.f 13) (H.f 14))) ?_
 refine RunD.en ?_
 refine Run.cR spRat (fun _ _ _ H=>qNewRat 1 2 (by decide) (by decide) (by decide) (by decide) (by decide)) ?_
 refine Run.cO 2 softRat (fun _ _ _ H=>qMul ((c.a*d.c)+(d.a*c.c)) (Rat.divInt 1 2) (RatP.blk (q:=(c.a*d.c)+(d.a*c.c)) (H.o 2)) (anyV (H.o 2)) (anyV (H.f 17)) (by first|omega|(dsimp only at *;omega))) ?_
 refine Run.cO 2 softRat (fun _ _ _ H=>qSub (((c.a*d.c)+(d.a*c.c))*(Rat.divInt 1 2)) ((c.b.mul d.b.conj).re) (RatP.blk (q:=((c.a*d.c)+(d.a*c.c))*(Rat.divInt 1 2)) (H.o 2)) (anyV (H.o 2)) (anyV (H.f 15)) (by first|omega|(dsimp only at *;omega))) ?_
 exact Run.rR (fun _ _ _ H=>H.s 2)
end Go.Proofs.YtcpjdjnaipbieaaGreat
namespace Go.Proofs.YtcpjdjnaipbieaaGreat
open Go.RowKit Rgn Eng
set_option maxHeartbeats 4000000
set_option maxRecDepth 100000
variable {S:Nat→Prop} {W:World}
theorem ivWhA {b0:Nat} (r q:RCi) (B0:W.heap[b0]? = some (.cells (rciC r++rciC q) 47 (0,0))) (p0:ciOk r=false):Calls Tryz.prog 160 #[.slice (some ⟨b0,0,none⟩) 2 2] W (RetV (.tuple #[.slice none 0 0,.int .i64 2]) W):=by
 refine Run.goP (S:=Z0) (Pack.nil.b B0 (some 2) 32) Tryz.func160 rfl ?_
 refine Run.cR (spRingJC false) (fun _ _ _ H=>eWheelN r p0) ?_
 exact Run.rV rfl
theorem ivRtY (x:Ci) (y:Ci) (p0:ciOk (rci x)=true) (p1:ciOk (rci y)=true):Calls Tryz.prog 34 #[ciV x,ciV y] W (RetV (.tuple #[.bool ((x.dot y).num.sign == 0),.int .i64 0]) W):=by
 have f1:=cifits_ht (ciOk_c p0).1
 have f2:=cifits_ht (ciOk_c p1).1
 refine Run.goP (S:=Z0) ((Pack.nil.k (ciV x) (ciC x).toList (.s (.agg (ks 0 16)))).k (ciV y) (ciC y).toList (.s (.agg (ks 0 16)))) Tryz.func34 rfl ?_
 refine Run.cB (n:=2) (T:=203) (φs:=ringF [x,y]) (fun _ _ _ H=>(ivWhY x y (H.b 2) p0 p1).mono fun _ _ h=>retRow_B h) (fun cap=>?_)
 refine Run.dr ?_
 refine RunD.cR spRat (fun _ _ _ H=>ivProd x y (RingP.mk (H.f 0) (H.f 1) (H.f 2) (H.f 3)) (RingP.mk (H.f 4) (H.f 5) (H.f 6) (H.f 7)) (by omega)) ?_
 refine RunD.cV [.int .i64 (x.dot y).num.sign] kb (fun _ _ _ H=>qSign (x.dot y) (H.f 8)) ?_
 refine RunD.bi (op:=.eql) (t:=3) (a:=.int .i64 (x.dot y).num.sign) (c:=.int .i64 0) [.bool ((x.dot y).num.sign == 0)] kb (fun w o ρ x y t' ho hx hy=>ex_icmp .eql _ _ _ rfl ho hx hy) ?_
 refine RunD.en ?_
 exact Run.rV rfl
end Go.Proofs.YtcpjdjnaipbieaaGreat
namespace Go.Proofs.YtcpjdjnaipbieaaGreat
open Go.RowKit Rgn Eng
set_option maxHeartbeats 8000000
set_option maxRecDepth 100000
variable {S:Nat→Prop} {W:World}
theorem ivOvO (c:Ci) (p0:ciOk (rci c)=true):Calls Tryz.prog 31 #[ciV c] W (RetV (.tuple #[rmbV (mbcut c.over.nrm),.int .i64 (mberr c.over.nrm)]) W):=by
 have f1:=cifits_ht (ciOk_c p0).1
 refine Run.goP (S:=Z0) (Pack.nil.k (ciV c) (ciC c).toList (.s (.agg (ks 0 16)))) Tryz.func31 rfl ?_
 refine Run.cR (spRingC true) (fun _ _ _ H=>eWheelO c p0) ?_
 refine Run.cR spMat (fun _ _ _ H=>iOver c (RingP.mk (H.f 0) (H.f 1) (H.f 2) (H.f 3)) (by first|assumption|omega|exact over_piv (ciOk_c p0).2.1|(refine over_le ?_;omega)|(dsimp only at *;omega))) ?_
 refine Run.cV ((rmbC (mbcut c.over.nrm)).toList++[.int .i64 (mberr c.over.nrm)]) (.tup [.agg (ks 0 33),.o (.k 33)]) (fun _ _ _ H=>mtTold c.over (MatP.mk (H.f 4) (H.f 5) (H.f 6) (H.f 7) (H.f 8) (H.f 9) (H.f 10) (H.f 11)) (by first|assumption|omega|exact over_piv (ciOk_c p0).2.1|(refine over_le ?_;omega)|(dsimp only at *;omega)) (by first|assumption|omega|exact over_piv (ciOk_c p0).2.1|(refine over_le ?_;omega)|(dsimp only at *;omega))) ?_
 exact Run.rV rfl
end Go.Proofs.YtcpjdjnaipbieaaGreat
namespace Go.Proofs.YtcpjdjnaipbieaaGreat
open Go.RowKit Rgn
theorem over_l2 {k:Ci} (h:ht k.a+ht k.b.re+ht k.b.im+ht k.c≤40000):ht k.over.a.re+ht k.over.a.im+ht k.over.b.re+ht k.over.b.im+ht k.over.c.re+ht k.over.c.im+ht k.over.d.re+ht k.over.d.im≤200000:=by
 have h1:=ht_neg k.b.re
 have h2:=ht_neg (-k.b.im)
 have h3:=ht_neg k.b.im
 have h4:=ht_neg k.c
 have h5:=ht_zero
 show ht (-k.b.re)+ht (- -k.b.im)+ht (-k.c)+ht (0:Rat)+ht k.a+ht (0:Rat)+ht k.b.re+ht k.b.im≤_
 omega
theorem send_le {m:Mb} {p:Pn} (h:ht m.a.re+ht m.a.im+ht m.b.re+ht m.b.im+ht m.c.re+ht m.c.im+ht m.d.re+ht m.d.im≤200000) (hp:ht p.z.re+ht p.z.im≤200000):ht (m.send p).z.re+ht (m.send p).z.im≤67108864:=by
 have z0:=ht_zero
 have key:∀ a b:Cx,ht a.re+ht a.im≤2000000→ht b.re+ht b.im≤2000000→ht (a.div b).re+ht (a.div b).im≤67108864:=by
  intro a b h1 h2
  have h3:=hc_div a b
  omega
 have h1:=hc_conj p.z
 have h2:=hc_mul m.a p.z
 have h3:=hc_mul m.c p.z
 have h4:=hc_mul m.a p.z.conj
 have h5:=hc_mul m.c p.z.conj
 have h6:=hc_add (m.a.mul p.z) m.b
 have h7:=hc_add (m.c.mul p.z) m.d
 have h8:=hc_add (m.a.mul p.z.conj) m.b
 have h9:=hc_add (m.c.mul p.z.conj) m.d
 have hput:ht (m.put p).1.re+ht (m.put p).1.im≤2000000∧ht (m.put p).2.re+ht (m.put p).2.im≤2000000:=by
  cases e:(!p.inf) with
  | false =>
   rw [put_i e]
   show ht m.a.re+ht m.a.im≤_∧ht m.c.re+ht m.c.im≤_
   omega
  | true=>cases t:m.t with
   | true =>
    rw [put_n1 e t]
    show ht ((m.a.mul p.z.conj).add m.b).re+ht ((m.a.mul p.z.conj).add m.b).im≤_∧ht ((m.c.mul p.z.conj).add m.d).re+ht ((m.c.mul p.z.conj).add m.d).im≤_
    omega
   | false =>
    rw [put_n0 e t]
    show ht ((m.a.mul p.z).add m.b).re+ht ((m.a.mul p.z).add m.b).im≤_∧ht ((m.c.mul p.z).add m.d).re+ht ((m.c.mul p.z).add m.d).im≤_
    omega
 unfold Mb.send
 split
 ·show ht (0:Rat)+ht (0:Rat)≤_
  omega
 ·exact key _ _ hput.1 hput.2
end Go.Proofs.YtcpjdjnaipbieaaGreat
namespace Go.Proofs.YtcpjdjnaipbieaaGreat
open Go.RowKit Rgn Eng
set_option maxHeartbeats 8000000
set_option maxRecDepth 100000
variable {S:Nat→Prop} {W:World}
theorem mtUndo {v0:Value} (m:Mb) (t0:(MatP m).p S v0 W) (p0:ht m.a.re+ht m.a.im+ht m.b.re+ht m.b.im+ht m.c.re+ht m.c.im+ht m.d.re+ht m.d.im≤268435456) (p1:m.det.zero=false):Calls Tryz.prog 193 #[v0] W (Ret (MatP m.undo) S W):=by
 have h1:=hc_neg m.b
 have h2:=hc_neg m.c
 have h3:=hc_conj m.d
 have h4:=hc_conj m.a
 have h5:=hc_conj m.b.neg
 have h6:=hc_conj m.c.neg
 refine Run.goP (S:=S) (Pack.nil.s spMat t0) Tryz.func193 rfl ?_
 refine Run.dr ?_
 refine RunD.cR spNum (fun _ _ _ H=>eNeg m.b (NumP.mk (H.f 2) (H.f 3)) (by first|omega|(dsimp only at *;omega)|exact undo_p1 p1 _|exact undo_p0 p1 _)) ?_
 refine RunD.cR spNum (fun _ _ _ H=>eNeg m.c (NumP.mk (H.f 4) (H.f 5)) (by first|omega|(dsimp only at *;omega)|exact undo_p1 p1 _|exact undo_p0 p1 _)) ?_
 refine RunD.en ?_
 refine (Bool.eq_false_or_eq_true (m.t)).elim (fun c1=>?_) (fun c1=>?_)
 · refine Run.kn c1 ?_
   refine Run.dr ?_
   refine RunD.cR spNum (fun _ _ _ H=>eConj m.d (NumP.mk (H.f 6) (H.f 7)) (by first|omega|(dsimp only at *;omega)|exact undo_p1 p1 c1|exact undo_p0 p1 c1)) ?_
   refine RunD.cR spNum (fun _ _ _ H=>eConj m.b.neg (NumP.mk (H.f 8) (H.f 9)) (by first|omega|(dsimp only at *;omega)|exact undo_p1 p1 c1|exact undo_p0 p1 c1)) ?_
   refine RunD.cR spNum (fun _ _ _ H=>eConj m.c.neg (NumP.mk (H.f 10) (H.f 11)) (by first|omega|(dsimp only at *;omega)|exact undo_p1 p1 c1|exact undo_p0 p1 c1)) ?_
   refine RunD.cR spNum (fun _ _ _ H=>eConj m.a (NumP.mk (H.f 0) (H.f 1)) (by first|omega|(dsimp only at *;omega)|exact undo_p1 p1 c1|exact undo_p0 p1 c1)) ?_
   refine RunD.en ?_
   refine Run.cR spMat (fun _ _ _ H=>mtNorm (Mb.mk m.d.conj m.b.neg.conj m.c.neg.conj m.a.conj m.t) (MatP.mk (H.f 12) (H.f 13) (H.f 14) (H.f 15) (H.f 16) (H.f 17) (H.f 18) (H.f 19)) (by first|omega|(dsimp only at *;omega)|exact undo_p1 p1 c1|exact undo_p0 p1 c1) (by first|omega|(dsimp only at *;omega)|exact undo_p1 p1 c1|exact undo_p0 p1 c1)) ?_
   exact Run.rR (fun _ _ _ H=>VPe (φ:=MatP) (undo_1 c1) (MatP.mk (H.f 20) (H.f 21) (H.f 22) (H.f 23) (H.f 24) (H.f 25) (H.f 26) (H.f 27)))
 · refine Run.kn c1 ?_
   refine Run.cR spMat (fun _ _ _ H=>mtNorm (Mb.mk m.d m.b.neg m.c.neg m.a m.t) (MatP.mk (H.f 6) (H.f 7) (H.f 8) (H.f 9) (H.f 10) (H.f 11) (H.f 0) (H.f 1)) (by first|omega|(dsimp only at *;omega)|exact undo_p1 p1 c1|exact undo_p0 p1 c1) (by first|omega|(dsimp only at *;omega)|exact undo_p1 p1 c1|exact undo_p0 p1 c1)) ?_
   exact Run.rR (fun _ _ _ H=>VPe (φ:=MatP) (undo_0 c1) (MatP.mk (H.f 12) (H.f 13) (H.f 14) (H.f 15) (H.f 16) (H.f 17) (H.f 18) (H.f 19)))
theorem mtSend {v0 v1:Value} (m:Mb) (p:Pn) (t0:(MatP m).p S v0 W) (t1:(PlaceP p).p S v1 W) (p0:ht m.a.re+ht m.a.im+ht m.b.re+ht m.b.im+ht m.c.re+ht m.c.im+ht m.d.re+ht m.d.im+(ht p.z.re+ht p.z.im)≤67108864):Calls Tryz.prog 157 #[v0,v1] W (Ret (PlaceP (m.send p)) S W):=by
 have h1:=hc_conj p.z
 have h2:=hc_mul m.a p.z
 have h3:=hc_mul m.c p.z
 have h4:=hc_mul m.a p.z.conj
 have h5:=hc_mul m.c p.z.conj
 have h6:=hc_add (m.a.mul p.z) m.b
 have h7:=hc_add (m.c.mul p.z) m.d
 have h8:=hc_add (m.a.mul p.z.conj) m.b
 have h9:=hc_add (m.c.mul p.z.conj) m.d
 refine Run.goP (S:=S) ((Pack.nil.s spMat t0).s spPlace t1) Tryz.func157 rfl ?_
 refine Run.dr ?_
 refine RunD.en ?_
 refine (Bool.eq_false_or_eq_true (p.inf)).elim (fun c1=>?_) (fun c1=>?_)
 · refine Run.kn c1 ?_
   refine Run.cV [.bool m.c.zero] kb (fun _ _ _ H=>eZero m.c (NumP.mk (H.f 4) (H.f 5))) ?_
   refine (Bool.eq_false_or_eq_true (m.c.zero)).elim (fun c2=>?_) (fun c2=>?_)
   · refine Run.kn c2 ?_
     exact Run.rR (fun _ _ _ H=>VPe (φ:=PlaceP) (send_iT (by rw [c1];rfl) c2) (PlaceP.mk (RatN.nil rfl) (RatN.nil rfl)))
   · refine Run.kn c2 ?_
     refine Run.cR spNum (fun _ _ _ H=>eDiv m.a m.c (NumP.mk (H.f 0) (H.f 1)) (NumP.mk (H.f 4) (H.f 5)) (by first|omega|(dsimp only at *;omega)|exact zero_norm _|exact zero_norm c2) (by first|omega|(dsimp only at *;omega)|exact zero_norm _|exact zero_norm c2)) ?_
     exact Run.rR (fun _ _ _ H=>VPe (φ:=PlaceP) (send_iF (by rw [c1];rfl) c2) (PlaceP.mk (H.f 10) (H.f 11)))
 · refine Run.kn c1 ?_
   refine (Bool.eq_false_or_eq_true (m.t)).elim (fun c3=>?_) (fun c3=>?_)
   · refine Run.kn c3 ?_
     refine Run.cR spNum (fun _ _ _ H=>eConj p.z (NumP.mk (H.f 8) (H.f 9)) (by first|omega|(dsimp only at *;omega)|exact zero_norm _|exact zero_norm c3)) ?_
     refine Run.dr ?_
     refine RunD.cR spNum (fun _ _ _ H=>eNMul m.a p.z.conj (NumP.mk (H.f 0) (H.f 1)) (NumP.mk (H.f 10) (H.f 11)) (by first|omega|(dsimp only at *;omega)|exact zero_norm _|exact zero_norm c3)) ?_
     refine RunD.cR spNum (fun _ _ _ H=>eAdd (m.a.mul p.z.conj) m.b (NumP.mk (H.f 12) (H.f 13)) (NumP.mk (H.f 2) (H.f 3)) (by first|omega|(dsimp only at *;omega)|exact zero_norm _|exact zero_norm c3)) ?_
     refine RunD.cR spNum (fun _ _ _ H=>eNMul m.c p.z.conj (NumP.mk (H.f 4) (H.f 5)) (NumP.mk (H.f 10) (H.f 11)) (by first|omega|(dsimp only at *;omega)|exact zero_norm _|exact zero_norm c3)) ?_
     refine RunD.cR spNum (fun _ _ _ H=>eAdd (m.c.mul p.z.conj) m.d (NumP.mk (H.f 16) (H.f 17)) (NumP.mk (H.f 6) (H.f 7)) (by first|omega|(dsimp only at *;omega)|exact zero_norm _|exact zero_norm c3)) ?_
     refine RunD.en ?_
     refine Run.cV [.bool (((m.c.mul p.z.conj).add m.d).zero)] kb (fun _ _ _ H=>eZero ((m.c.mul p.z.conj).add m.d) (NumP.mk (H.f 18) (H.f 19))) ?_
     refine (Bool.eq_false_or_eq_true (((m.c.mul p.z.conj).add m.d).zero)).elim (fun c4=>?_) (fun c4=>?_)
     · refine Run.kn c4 ?_
       exact Run.rR (fun _ _ _ H=>VPe (φ:=PlaceP) (send_n1T (by rw [c1];rfl) c3 c4) (PlaceP.mk (RatN.nil rfl) (RatN.nil rfl)))
     · refine Run.kn c4 ?_
       refine Run.cR spNum (fun _ _ _ H=>eDiv ((m.a.mul p.z.conj).add m.b) ((m.c.mul p.z.conj).add m.d) (NumP.mk (H.f 14) (H.f 15)) (NumP.mk (H.f 18) (H.f 19)) (by first|omega|(dsimp only at *;omega)|exact zero_norm c4|exact zero_norm c3) (by first|omega|(dsimp only at *;omega)|exact zero_norm c4|exact zero_norm c3)) ?_
       exact Run.rR (fun _ _ _ H=>VPe (φ:=PlaceP) (send_n1F (by rw [c1];rfl) c3 c4) (PlaceP.mk (H.f 20) (H.f 21)))
   · refine Run.kn c3 ?_
     refine Run.dr ?_
     refine RunD.cR spNum (fun _ _ _ H=>eNMul m.a p.z (NumP.mk (H.f 0) (H.f 1)) (NumP.mk (H.f 8) (H.f 9)) (by first|omega|(dsimp only at *;omega)|exact zero_norm _|exact zero_norm c3)) ?_
     refine RunD.cR spNum (fun _ _ _ H=>eAdd (m.a.mul p.z) m.b (NumP.mk (H.f 10) (H.f 11)) (NumP.mk (H.f 2) (H.f 3)) (by first|omega|(dsimp only at *;omega)|exact zero_norm _|exact zero_norm c3)) ?_
     refine RunD.cR spNum (fun _ _ _ H=>eNMul m.c p.z (NumP.mk (H.f 4) (H.f 5)) (NumP.mk (H.f 8) (H.f 9)) (by first|omega|(dsimp only at *;omega)|exact zero_norm _|exact zero_norm c3)) ?_
     refine RunD.cR spNum (fun _ _ _ H=>eAdd (m.c.mul p.z) m.d (NumP.mk (H.f 14) (H.f 15)) (NumP.mk (H.f 6) (H.f 7)) (by first|omega|(dsimp only at *;omega)|exact zero_norm _|exact zero_norm c3)) ?_
     refine RunD.en ?_
     refine Run.cV [.bool (((m.c.mul p.z).add m.d).zero)] kb (fun _ _ _ H=>eZero ((m.c.mul p.z).add m.d) (NumP.mk (H.f 16) (H.f 17))) ?_
     refine (Bool.eq_false_or_eq_true (((m.c.mul p.z).add m.d).zero)).elim (fun c5=>?_) (fun c5=>?_)
     · refine Run.kn c5 ?_
       exact Run.rR (fun _ _ _ H=>VPe (φ:=PlaceP) (send_n0T (by rw [c1];rfl) c3 c5) (PlaceP.mk (RatN.nil rfl) (RatN.nil rfl)))
     · refine Run.kn c5 ?_
       refine Run.cR spNum (fun _ _ _ H=>eDiv ((m.a.mul p.z).add m.b) ((m.c.mul p.z).add m.d) (NumP.mk (H.f 12) (H.f 13)) (NumP.mk (H.f 16) (H.f 17)) (by first|omega|(dsimp only at *;omega)|exact zero_norm c5|exact zero_norm c3) (by first|omega|(dsimp only at *;omega)|exact zero_norm c5|exact zero_norm c3)) ?_
       exact Run.rR (fun _ _ _ H=>VPe (φ:=PlaceP) (send_n0F (by rw [c1];rfl) c3 c5) (PlaceP.mk (H.f 18) (H.f 19)))
end Go.Proofs.YtcpjdjnaipbieaaGreat
namespace Go.Proofs.YtcpjdjnaipbieaaGreat
open Go.RowKit Rgn Eng
set_option maxHeartbeats 1000000
set_option maxRecDepth 100000
variable {S:Nat→Prop} {W:World}
theorem ivPtZ (c:Ci) (z:Cx) (p0:ciOk (rci c)=true) (p1:gfits (rg z)=true):Calls Tryz.prog 32 #[ciV c,pnV (Pn.mk false z)] W (RetV (.tuple #[rpnV (pncut (c.over.send (Pn.mk false z))),.int .i64 (pnerr (c.over.send (Pn.mk false z)))]) W):=by
 have f3:ht z.re+ht z.im≤20000:=gfits_ht2 p1
 have f1:=cifits_ht (ciOk_c p0).1
 have f2:=over_l2 f1
 have f4:=send_le f2 (p:=Pn.mk false z) (Nat.le_trans f3 (by decide))
 refine Run.goP (S:=Z0) ((Pack.nil.k (ciV c) (ciC c).toList (.s (.agg (ks 0 16)))).k (rpnV ⟨false,rg z⟩) (rpnC ⟨false,rg z⟩).toList (.s (.agg (ks 0 9)))) Tryz.func32 rfl ?_
 refine Run.cR (spRingC true) (fun _ _ _ H=>eWheelO c p0) ?_
 refine Run.cR (spPlaceC true) (fun _ _ _ H=>eSpotZ z p1) ?_
 refine Run.dr ?_
 refine RunD.cR spMat (fun _ _ _ H=>iOver c (RingP.mk (H.f 0) (H.f 1) (H.f 2) (H.f 3)) (by omega)) ?_
 refine RunD.cR spPlace (fun _ _ _ H=>mtSend c.over ⟨false,z⟩ (MatP.mk (H.f 6) (H.f 7) (H.f 8) (H.f 9) (H.f 10) (H.f 11) (H.f 12) (H.f 13)) (PlaceP.mk (H.f 4) (H.f 5)) (Nat.le_trans (Nat.add_le_add f2 f3) (by decide))) ?_
 refine RunD.cV ((rpnC (pncut (c.over.send ⟨false,z⟩))).toList++[.int .i64 (pnerr (c.over.send ⟨false,z⟩))]) (.tup [.agg (ks 0 9),.o (.k 9)]) (fun _ _ _ H=>plTold (c.over.send ⟨false,z⟩) (PlaceP.mk (H.f 14) (H.f 15)) (by omega)) ?_
 refine RunD.en ?_
 exact Run.rV rfl
end Go.Proofs.YtcpjdjnaipbieaaGreat
namespace Go.Proofs.YtcpjdjnaipbieaaGreat
open Go.RowKit Rgn
abbrev lineM:Mb:=⟨Cx.ofInt (1:Int) (0:Int),Cx.ofInt (0:Int) (0:Int),Cx.ofInt (0:Int) (0:Int),Cx.ofInt (1:Int) (0:Int),true⟩
theorem fits_c {q:Rat} (h:ht q=2):fits (rf q)=true:=fits_ht (by omega)
theorem gfits_c {a b:Int} (h1:ht (a:Rat)=2) (h2:ht (b:Rat)=2):gfits (rg (Cx.ofInt a b))=true:=gfits_ht (z:=Cx.ofInt a b) ⟨by show ht (a:Rat)≤_;omega,by show ht (b:Rat)≤_;omega⟩
theorem ht_c0:ht ((0:Int):Rat)=2:=by decide
theorem ht_c1:ht ((1:Int):Rat)=2:=by decide
theorem ht_cm:ht ((-1:Int):Rat)=2:=by decide
theorem unitFits:cifits (rci unitK)=true:=by
 show (fits (rf ((1:Int):Rat))&&gfits (rg (Cx.ofInt (0:Int) (0:Int)))&&fits (rf ((-1:Int):Rat)))=true
 rw [fits_c ht_c1,fits_c ht_cm,gfits_c ht_c0 ht_c0];rfl
theorem lineFits:cifits (rci lineK)=true:=by
 show (fits (rf ((0:Int):Rat))&&gfits (rg (Cx.ofInt (0:Int) (1:Int)))&&fits (rf ((0:Int):Rat)))=true
 rw [fits_c ht_c0,gfits_c ht_c0 ht_c1];rfl
theorem lineMFits:mbfits (rmb lineM)=true:=by
 show (gfits (rg (Cx.ofInt (1:Int) (0:Int)))&&gfits (rg (Cx.ofInt (0:Int) (0:Int)))&&gfits (rg (Cx.ofInt (0:Int) (0:Int)))&&gfits (rg (Cx.ofInt (1:Int) (0:Int))))=true
 rw [gfits_c ht_c1 ht_c0,gfits_c ht_c0 ht_c0];rfl
theorem unitOk:ciOk (rci unitK)=true:=ciOk_yes unitFits (by decide +kernel) (by decide +kernel)
theorem lineOk:ciOk (rci lineK)=true:=ciOk_yes lineFits (by decide +kernel) (by decide +kernel)
theorem lineMOk:mbOk (rmb lineM)=true:=mbOk_yes lineMFits (by decide +kernel) (by decide +kernel)
theorem line_over:lineK.over.nrm=lineM:=by decide +kernel
theorem line_is:lineM.isOk=true:=by decide +kernel
theorem line_k:lineM.isK.nrm=lineK:=by decide +kernel
theorem unit_send:(unitK.over.send ⟨false,Cx.ofInt (0:Int) (0:Int)⟩).inf=true:=by decide +kernel
theorem unit_line:((unitK.dot lineK).num.sign == 0)=true:=by decide +kernel
theorem line_R:lineM.isR=rci lineK:=by unfold Mb.isR;rw [if_pos line_is,line_k];unfold cicut;rw [if_pos lineFits]
theorem line_E:lineM.isE=0:=by unfold Mb.isE;rw [if_pos line_is,line_k];unfold cierr;rw [if_pos lineFits]
theorem line_M:mbcut lineK.over.nrm=rmb lineM:=by rw [line_over];unfold mbcut;rw [if_pos lineMFits]
theorem line_e:mberr lineK.over.nrm=0:=by rw [line_over];unfold mberr;rw [if_pos lineMFits]
abbrev rpnI:RPn:=⟨true,rz⟩
section
variable {W:World}
theorem wkPt (c:Ci) (z:Cx) (p0:c=unitK) (p1:z=Cx.ofInt (0:Int) (0:Int)) :
  Calls Tryz.prog 32 #[ciV c,pnV (Pn.mk false z)] W (RetV (.tuple #[rpnV rpnI,.int .i64 0]) W):=by
 subst p0;subst p1
 exact reV (pcut_inf unit_send).symm (ivPtZ unitK (Cx.ofInt (0:Int) (0:Int)) unitOk (gfits_c ht_c0 ht_c0))
theorem wkOver (c:Ci) (p0:c=lineK) :
  Calls Tryz.prog 31 #[ciV c] W (RetV (.tuple #[mbV lineM,.int .i64 0]) W):=by
 subst p0
 exact reV (show Value.tuple #[rmbV (mbcut lineK.over.nrm),.int .i64 (mberr lineK.over.nrm)]=.tuple #[rmbV (rmb lineM),.int .i64 0] by rw [line_M,line_e]) (ivOvO lineK lineOk)
theorem wkRt (x:Ci) (y:Ci) (p0:x=unitK) (p1:y=lineK) :
  Calls Tryz.prog 34 #[ciV x,ciV y] W (RetV (.tuple #[.bool true,.int .i64 0]) W):=by
 subst p0;subst p1
 exact reV (show Value.tuple #[.bool ((unitK.dot lineK).num.sign == 0),.int .i64 0]=.tuple #[.bool true,.int .i64 0] by rw [unit_line]) (ivRtY unitK lineK unitOk lineOk)
theorem wkIs (m:Mb) (p0:m=lineM) :
  Calls Tryz.prog 25 #[mbV m] W (RetV (.tuple #[ciV lineK,.int .i64 0]) W):=by
 subst p0
 exact reV (show Value.tuple #[rciV lineM.isR,.int .i64 lineM.isE]=.tuple #[rciV (rci lineK),.int .i64 0] by rw [line_R,line_E]) (ivIs lineM lineMOk)
end
end Go.Proofs.YtcpjdjnaipbieaaGreat
namespace Go.Proofs.YtcpjdjnaipbieaaGreat
open Go.RowKit Rgn
set_option maxHeartbeats 4000000
set_option maxRecDepth 100000
variable {S:Nat→Prop} {W:World}
theorem l14works :
  Calls Tryz.prog 24 #[] W (RetV (.bool true) W):=by
 have bel:=b0 W
 go_enter Tryz.func24,Tryz.ntmps24
 refine gs 1 (Amb Z0 W) fun _ K1=>?_
 refine .mc rfl ?_
 refine .dk (fun u=>u 0::us 71) K1 bel fun u1 w1 D bel=>?_
 have E1_0:=D.q 0
 clear D
 refine gs 10 (Amb Z0 W) fun _ K2=>?_
 refine .cK rfl Tryz.func55 (fun H=>⟨_,ar0,l14Unit⟩) ?_
 refine .cK rfl Tryz.func130 (fun H=>⟨_,ar2 (H.c (.int .i64 0)) (H.c (.int .i64 0)),cInt _ _ (by first|omega|rfl) (by first|omega|rfl) (by first|omega|rfl) (by first|omega|rfl)⟩) ?_
 refine .e rfl (V:=pnV (Pn.mk false (Cx.ofInt (0:Int) (0:Int)))) (fun H=>by have e11:=H.g 11 1;clear H;go_simp) ?_
 refine .cK rfl Tryz.func32 (fun H=>⟨_,ar2 (H.g 10 0) (H.g 12 2),wkPt _ (Cx.ofInt (0:Int) (0:Int)) (by first|omega|rfl) (by first|omega|rfl)⟩) ?_
 refine .mv rfl 3 ?_
 refine .e rfl (V:=rpnV rpnI) (fun H=>x_ex (H.g 9 4)) ?_
 refine .e rfl (V:=.int .i64 0) (fun H=>x_ex (H.g 9 4)) ?_
 refine .al rfl zPn ?_
 refine .so rfl 7 (fun H=>⟨H.r 1 7,H.g 14 5⟩) ?_
 refine .mv rfl 6 ?_
 refine .dk (fun u=>u1 0::u 7::u 9::U::U::U::U::U::U::u 4::sq u 0 4 (u 5::u 6::us 56)) K2 bel fun u2 w2 D bel=>?_
 obtain ⟨b3,E2_7,A3,B3⟩:=D.st 8
 have E2_9:=D.q 9
 clear D
 refine gs 8 (Amb Z0 W) fun _ K4=>?_
 refine .cK rfl Tryz.func58 (fun H=>⟨_,ar0,l14Line⟩) ?_
 refine .cK rfl Tryz.func31 (fun H=>⟨_,ar1 (H.g 17 0),wkOver _ (by first|omega|rfl)⟩) ?_
 refine .mv rfl 1 ?_
 refine .e rfl (V:=mbV lineM) (fun H=>x_ex (H.g 16 2)) ?_
 refine .e rfl (V:=.int .i64 0) (fun H=>x_ex (H.g 16 2)) ?_
 refine .al rfl zMb ?_
 refine .so rfl 5 (fun H=>⟨H.r 3 5,H.g 19 3⟩) ?_
 refine .mv rfl 4 ?_
 refine .dk (fun u=>u1 0::u2 7::u2 9::u 5::u 7::U::U::U::U::u2 4::sq u2 0 4 (u2 5::u2 6::u 2::u 0::u 1::u 3::u 4::us 51)) K4 bel fun u3 w3 D bel=>?_
 obtain ⟨b5,E3_5,A5,B5⟩:=D.st 6
 have E3_7:=D.q 7
 replace B3:=D.k B3
 clear D
 refine gs 8 (Amb Z0 W) fun _ K6=>?_
 refine .cK rfl Tryz.func55 (fun H=>⟨_,ar0,l14Unit⟩) ?_
 refine .cK rfl Tryz.func58 (fun H=>⟨_,ar0,l14Line⟩) ?_
 refine .cK rfl Tryz.func34 (fun H=>⟨_,ar2 (H.g 22 0) (H.g 23 1),wkRt _ _ (by first|omega|rfl) (by first|omega|rfl)⟩) ?_
 refine .mv rfl 2 ?_
 refine .e rfl (V:=.bool true) (fun H=>x_ex (H.g 21 3)) ?_
 refine .e rfl (V:=.int .i64 0) (fun H=>x_ex (H.g 21 3)) ?_
 refine .mv rfl 4 ?_
 refine .mv rfl 5 ?_
 refine .dk (fun u=>u1 0::u2 7::u2 9::u3 5::u3 7::u 6::u 7::U::U::u2 4::sq u2 0 4 (u2 5::u2 6::u3 2::u3 0::u3 1::u3 3::u3 4::u 3::sq u 0 3 (u 4::u 5::us 45))) K6 bel fun u4 w4 D bel=>?_
 have E4_6:=D.q 6
 have E4_7:=D.q 7
 replace B3:=D.k B3
 replace B5:=D.k B5
 clear D
 refine gs 8 (Amb Z0 W) fun _ K7=>?_
 refine .lr rfl 3 E3_5 B5 ?_
 refine .cK rfl Tryz.func25 (fun H=>⟨_,ar1 (H.g 28 0),wkIs _ (by first|omega|rfl)⟩) ?_
 refine .mv rfl 1 ?_
 refine .e rfl (V:=ciV lineK) (fun H=>x_ex (H.g 27 2)) ?_
 refine .e rfl (V:=.int .i64 0) (fun H=>x_ex (H.g 27 2)) ?_
 refine .al rfl zCi ?_
 refine .so rfl 5 (fun H=>⟨H.r 7 5,H.g 30 3⟩) ?_
 refine .mv rfl 4 ?_
 refine .dk (fun u=>u1 0::u2 7::u2 9::u3 5::u3 7::u4 6::u4 7::u 5::u 7::u2 4::sq u2 0 4 (u2 5::u2 6::u3 2::u3 0::u3 1::u3 3::u3 4::u4 3::sq u4 0 3 (u4 4::u4 5::u 2::u 0::u 1::u 3::u 4::us 40))) K7 bel fun u5 w5 D bel=>?_
 obtain ⟨b8,E5_5,A8,B8⟩:=D.st 6
 have E5_7:=D.q 7
 replace B3:=D.k B3
 replace B5:=D.k B5
 clear D
 refine gd 41 (Amb Z0 W) fun _ K9=>?_
 refine .mz rfl 2 E2_9 ?_
 refine .cK rfl Tryz.func27 (fun H=>⟨_,ar1 (H.g 32 0),l14Num _⟩) ?_
 refine .e rfl (V:=.bool true) (fun H=>x_cm (H.g 33 1) (H.c _) (beq_self_eq_true (0:Int))) ?_
 refine .mv rfl 2 ?_
 refine .lr rfl 1 E2_7 B3 ?_ (hg:=gq 3 rfl)
 refine .e rfl (V:=rpnV (RPn.mk true rz)) (fun H=>by have k0:=H.c (.bool true);clear H;go_simp) ?_ (hg:=gq 3 rfl)
 refine .e rfl (V:=.bool true) (fun H=>ex_eql_pn (r:=rpnI) (q:=RPn.mk true rz) _ _ rfl (H.g 36 4) (H.g 37 5) (rfl.trans (decide_eq_true rfl))) ?_ (hg:=gq 3 rfl)
 refine .e rfl (fun H=>x_pkT (H.g 35 3) (H.g 38 6)) ?_
 refine .mv rfl 7 ?_
 refine .mz rfl 4 E3_7 ?_ (hg:=gq 8 rfl)
 refine .cK rfl Tryz.func27 (fun H=>⟨_,ar1 (H.g 41 9),l14Num _⟩) ?_ (hg:=gq 8 rfl)
 refine .e rfl (V:=.bool true) (fun H=>x_cm (H.g 42 10) (H.c _) (beq_self_eq_true (0:Int))) ?_ (hg:=gq 8 rfl)
 refine .e rfl (fun H=>x_pkT (H.g 40 8) (H.g 43 11)) ?_
 refine .mv rfl 12 ?_
 refine .lr rfl 3 E3_5 B5 ?_ (hg:=gq 13 rfl)
 refine .cK rfl Tryz.func130 (fun H=>⟨_,ar2 (H.c (.int .i64 1)) (H.c (.int .i64 0)),cInt _ _ (by first|omega|rfl) (by first|omega|rfl) (by first|omega|rfl) (by first|omega|rfl)⟩) ?_ (hg:=gq 13 rfl)
 refine .cK rfl Tryz.func130 (fun H=>⟨_,ar2 (H.c (.int .i64 0)) (H.c (.int .i64 0)),cInt _ _ (by first|omega|rfl) (by first|omega|rfl) (by first|omega|rfl) (by first|omega|rfl)⟩) ?_ (hg:=gq 13 rfl)
 refine .cK rfl Tryz.func130 (fun H=>⟨_,ar2 (H.c (.int .i64 0)) (H.c (.int .i64 0)),cInt _ _ (by first|omega|rfl) (by first|omega|rfl) (by first|omega|rfl) (by first|omega|rfl)⟩) ?_ (hg:=gq 13 rfl)
 refine .cK rfl Tryz.func130 (fun H=>⟨_,ar2 (H.c (.int .i64 1)) (H.c (.int .i64 0)),cInt _ _ (by first|omega|rfl) (by first|omega|rfl) (by first|omega|rfl) (by first|omega|rfl)⟩) ?_ (hg:=gq 13 rfl)
 refine .e rfl (V:=mbV (Mb.mk (Cx.ofInt (1:Int) (0:Int)) (Cx.ofInt (0:Int) (0:Int)) (Cx.ofInt (0:Int) (0:Int)) (Cx.ofInt (1:Int) (0:Int)) true)) (fun H=>by have e47:=H.g 47 15;have e48:=H.g 48 16;have e49:=H.g 49 17;have e50:=H.g 50 18;have k4:=H.c (.bool true);clear H;go_simp) ?_ (hg:=gq 13 rfl)
 refine .e rfl (V:=.bool true) (fun H=>ex_eql_mb (r:=rmb lineM) (q:=rmb (Mb.mk (Cx.ofInt (1:Int) (0:Int)) (Cx.ofInt (0:Int) (0:Int)) (Cx.ofInt (0:Int) (0:Int)) (Cx.ofInt (1:Int) (0:Int)) true)) _ _ rfl (H.g 46 14) (H.g 51 19) ((rmb_dec lineM (Mb.mk (Cx.ofInt (1:Int) (0:Int)) (Cx.ofInt (0:Int) (0:Int)) (Cx.ofInt (0:Int) (0:Int)) (Cx.ofInt (1:Int) (0:Int)) true)).trans (decide_eq_true rfl))) ?_ (hg:=gq 13 rfl)
 refine .e rfl (fun H=>x_pkT (H.g 45 13) (H.g 52 20)) ?_
 refine .mv rfl 21 ?_
 refine .mz rfl 5 E4_6 ?_ (hg:=gq 22 rfl)
 refine .e rfl (fun H=>x_pkT (H.g 54 22) (H.g 55 23)) ?_
 refine .mv rfl 24 ?_
 refine .mz rfl 6 E4_7 ?_ (hg:=gq 25 rfl)
 refine .cK rfl Tryz.func27 (fun H=>⟨_,ar1 (H.g 58 26),l14Num _⟩) ?_ (hg:=gq 25 rfl)
 refine .e rfl (V:=.bool true) (fun H=>x_cm (H.g 59 27) (H.c _) (beq_self_eq_true (0:Int))) ?_ (hg:=gq 25 rfl)
 refine .e rfl (fun H=>x_pkT (H.g 57 25) (H.g 60 28)) ?_
 refine .mv rfl 29 ?_
 refine .lr rfl 7 E5_5 B8 ?_ (hg:=gq 30 rfl)
 refine .cK rfl Tryz.func58 (fun H=>⟨_,ar0,l14Line⟩) ?_ (hg:=gq 30 rfl)
 refine .e rfl (V:=.bool true) (fun H=>ex_eql_ci (r:=rci lineK) (q:=rci lineK) _ _ rfl (H.g 63 31) (H.g 64 32) ((rci_dec lineK lineK).trans (decide_eq_true rfl))) ?_ (hg:=gq 30 rfl)
 refine .e rfl (fun H=>x_pkT (H.g 62 30) (H.g 65 33)) ?_
 refine .mv rfl 34 ?_
 refine .mz rfl 8 E5_7 ?_ (hg:=gq 35 rfl)
 refine .cK rfl Tryz.func27 (fun H=>⟨_,ar1 (H.g 68 36),l14Num _⟩) ?_ (hg:=gq 35 rfl)
 refine .e rfl (V:=.bool true) (fun H=>x_cm (H.g 69 37) (H.c _) (beq_self_eq_true (0:Int))) ?_ (hg:=gq 35 rfl)
 refine .e rfl (fun H=>x_pkT (H.g 67 35) (H.g 70 38)) ?_
 refine .mv rfl 39 ?_
 refine .dk (fun u=>u 40::u2 7::u2 9::u3 5::u3 7::u4 6::u4 7::u5 5::u5 7::u2 4::sq u2 0 4 (u2 5::u2 6::u3 2::u3 0::u3 1::u3 3::u3 4::u4 3::sq u4 0 3 (u4 4::u4 5::u5 2::u5 0::u5 1::u5 3::u5 4::sq u 0 40 []))) K9 bel fun u6 w6 D bel=>?_
 have E6_40:=D.q 40
 clear D
 exact wp_ret (rt rfl E6_40 rfl bel)
end Go.Proofs.YtcpjdjnaipbieaaGreat
namespace Go.Proofs.YtcpjdjnaipbieaaGreat
open Go.RowKit Rgn Eng
set_option maxHeartbeats 4000000
set_option maxRecDepth 100000
variable {S:Nat→Prop} {W:World}
theorem r3Small (a b:Int) (p0:-9223372036854775808≤a) (p1:a≤9223372036854775807) (p2:-9223372036854775808≤b) (p3:b≤9223372036854775807) (p4:b≠0):Calls Tryz.prog 125 #[.int .i64 a,.int .i64 b] W (RetV (fV (Rat.divInt a b)) W):=by
 have n0:=hi_i64 p0 p1
 have n1:=hi_i64 p2 p3
 refine Run.goP (S:=Z0) ((Pack.nil.k (.int .i64 a) [.int .i64 a] kb).k (.int .i64 b) [.int .i64 b] kb) Tryz.func125 rfl ?_
 refine Run.cV (wC a).toList (.s (.agg (ks 0 2))) (fun β ℓ w H=>rOf a p0 p1) ?_
 refine Run.cV (wC b).toList (.s (.agg (ks 0 2))) (fun β ℓ w H=>rOf b p2 p3) ?_
 refine Run.cV (fC (Rat.divInt a b)).toList (.s (.agg (ks 0 4))) (fun β ℓ w H=>fOf a b (by omega) p4) ?_
 exact Run.rV rfl
theorem m8PFits (i:Bool) (r:RG):Calls Tryz.prog 97 #[rpnV ⟨i,r⟩] W (RetV (.bool (i||gfits r)) W):=by
 refine Run.goP (S:=Z0) (Pack.nil.k (rpnV ⟨i,r⟩) (.bool i::(rgC r).toList) (.s (.agg (ks 0 9)))) Tryz.func97 rfl ?_
 cases i
 · refine Run.kn (b:=false) rfl ?_
   refine Run.cV [.bool (gfits r)] kb (fun β ℓ w H=>cFits r) ?_
   exact Run.rV rfl
 · refine Run.kn (b:=true) rfl ?_
   exact Run.rV rfl
theorem l14MayO (c:Ci) (p0:ciOk (rci c)=true):Calls Tryz.prog 35 #[ciV c] W (RetV (.bool true) W):=by
 refine Run.goP (S:=Z0) (Pack.nil.k (ciV c) (ciC c).toList (.s (.agg (ks 0 16)))) Tryz.func35 rfl ?_
 refine Run.cV [] (.s (.o (.c (.int .i64 0)))) (fun β ℓ w H=>c11ChkO c p0) ?_
 exact Run.rV rfl
theorem l14MayN (r:RCi) (p0:ciOk r=false):Calls Tryz.prog 35 #[rciV r] W (RetV (.bool false) W):=by
 refine Run.goP (S:=Z0) (Pack.nil.k (rciV r) (rciC r).toList (.s (.agg (ks 0 16)))) Tryz.func35 rfl ?_
 refine Run.cV [] (.s (.o (.c (.int .i64 2)))) (fun β ℓ w H=>c11ChkN r p0) ?_
 exact Run.rV rfl
theorem l14long1 {b1:Nat} (a:RG) (B:W.heap[b1]? = some (.cells (rgC a) 27 (0,0))):Calls Tryz.prog 23 #[.slice (some ⟨b1,0,none⟩) 1 1] W (RetV (.bool (lgG a)) W):=by
 refine Run.goP (S:=Z0) (Pack.nil.b B (some 1) 8) Tryz.func23 rfl ?_
 refine Run.cV [.bool (lgF a.re)] kb (fun β ℓ w H=>l14longF a.re) ?_
 rcases Bool.eq_false_or_eq_true (lgF a.re) with h|h
 · refine Run.kn h ?_
   exact Run.rV (by unfold lgG;rw [h,Bool.true_or])
 refine Run.kn h ?_
 refine Run.cV [.bool (lgF a.im)] kb (fun β ℓ w H=>l14longF a.im) ?_
 rcases Bool.eq_false_or_eq_true (lgF a.im) with h2|h2
 · refine Run.kn h2 ?_
   exact Run.rV (by unfold lgG;rw [h,h2];first|done|rfl)
 refine Run.kn h2 ?_
 exact Run.rV (by unfold lgG;rw [h,h2];first|done|rfl)
end Go.Proofs.YtcpjdjnaipbieaaGreat
namespace Go.Proofs.YtcpjdjnaipbieaaGreat
open Go.RowKit Rgn
@[reducible] def Cx.inv (k:Cx):Cx:=k.conj.scale k.norm⁻¹
theorem div_inv (x k:Cx):x.div k=x.mul k.inv:=Cx.ext' (by show (x.re*k.re-x.im*-k.im)*k.norm⁻¹=x.re*(k.re*k.norm⁻¹)-x.im*(-k.im*k.norm⁻¹);grind) (by show (x.re*-k.im+x.im*k.re)*k.norm⁻¹=x.re*(-k.im*k.norm⁻¹)+x.im*(k.re*k.norm⁻¹);grind)
theorem inv_one {k:Cx} (h:k.zero=false):k.inv.mul k=⟨1,0⟩:=by
 have hn:k.norm≠0:=zero_norm h
 have e:(k.re*k.re+k.im*k.im)*k.norm⁻¹=1:=Rat.mul_inv_cancel _ hn
 exact Cx.ext' (by show k.re*k.norm⁻¹*k.re - -k.im*k.norm⁻¹*k.im=1;grind) (by show k.re*k.norm⁻¹*k.im+-k.im*k.norm⁻¹*k.re=0;grind)
theorem inv_zero {k:Cx} (h:k.zero=false):k.inv.zero=false:=by
 cases e:k.inv.zero with
 | false=>rfl
 | true =>
  have h1:=inv_one h
  rw [zero_iff.1 e] at h1
  have h2:(0:Rat)*k.re-0*k.im=1:=congrArg Cx.re h1
  grind
theorem mul_assoc' (x y z:Cx):(x.mul y).mul z=x.mul (y.mul z):=Cx.ext' (by show (x.re*y.re-x.im*y.im)*z.re-(x.re*y.im+x.im*y.re)*z.im=x.re*(y.re*z.re-y.im*z.im)-x.im*(y.re*z.im+y.im*z.re);grind) (by show (x.re*y.re-x.im*y.im)*z.im+(x.re*y.im+x.im*y.re)*z.re=x.re*(y.re*z.im+y.im*z.re)+x.im*(y.re*z.re-y.im*z.im);grind)
theorem mul_one' (x:Cx):x.mul ⟨1,0⟩=x:=Cx.ext' (by show x.re*1-x.im*0=x.re;grind) (by show x.re*0+x.im*1=x.im;grind)
theorem zero_mul' (z:Cx):(Cx.mk 0 0).mul z=⟨0,0⟩:=Cx.ext' (by show (0:Rat)*z.re-0*z.im=0;grind) (by show (0:Rat)*z.im+0*z.re=0;grind)
theorem mul_zero_iff {x j:Cx} (h:j.zero=false):(x.mul j).zero=x.zero:=by
 rw [Bool.eq_iff_iff,zero_iff,zero_iff]
 constructor
 ·intro e
  have e2:(x.mul j).mul j.inv=⟨0,0⟩:=by rw [e];exact zero_mul' _
  rw [mul_assoc', cmul_comm j,inv_one h,mul_one'] at e2
  exact e2
 ·intro e;rw [e];exact zero_mul' _
theorem norm_mul' (x y:Cx):(x.mul y).norm=x.norm*y.norm:=by
 show (x.re*y.re-x.im*y.im)*(x.re*y.re-x.im*y.im)+(x.re*y.im+x.im*y.re)*(x.re*y.im+x.im*y.re)=(x.re*x.re+x.im*x.im)*(y.re*y.re+y.im*y.im)
 grind
theorem div_mul_mul {x y j:Cx} (h:j.zero=false):(x.mul j).div (y.mul j)=x.div y:=by
 have hn:j.norm≠0:=zero_norm h
 have e:(y.mul j).norm⁻¹*j.norm=y.norm⁻¹:=by
  rw [norm_mul', Rat.inv_mul_rev,Rat.mul_comm,← Rat.mul_assoc,Rat.mul_inv_cancel _ hn,Rat.one_mul]
 have e1:(x.mul j).mul (y.mul j).conj=(x.mul y.conj).scale j.norm:=Cx.ext' (by show (x.re*j.re-x.im*j.im)*(y.re*j.re-y.im*j.im)-(x.re*j.im+x.im*j.re)*-(y.re*j.im+y.im*j.re)=(x.re*y.re-x.im*-y.im)*(j.re*j.re+j.im*j.im);grind) (by show (x.re*j.re-x.im*j.im)*-(y.re*j.im+y.im*j.re)+(x.re*j.im+x.im*j.re)*(y.re*j.re-y.im*j.im)=(x.re*-y.im+x.im*y.re)*(j.re*j.re+j.im*j.im);grind)
 show ((x.mul j).mul (y.mul j).conj).scale (y.mul j).norm⁻¹=(x.mul y.conj).scale y.norm⁻¹
 rw [e1,← e]
 exact Cx.ext' (by show (x.re*y.re-x.im*-y.im)*j.norm*(y.mul j).norm⁻¹=(x.re*y.re-x.im*-y.im)*((y.mul j).norm⁻¹*j.norm);grind) (by show (x.re*-y.im+x.im*y.re)*j.norm*(y.mul j).norm⁻¹=(x.re*-y.im+x.im*y.re)*((y.mul j).norm⁻¹*j.norm);grind)
@[reducible] def Mb.by (m:Mb) (j:Cx):Mb:=⟨m.a.mul j,m.b.mul j,m.c.mul j,m.d.mul j,m.t⟩
theorem nrm_by' (m:Mb):m.nrm=m.by m.piv.inv:=by unfold Mb.nrm;rw [div_inv,div_inv,div_inv,div_inv]
theorem piv_by {m:Mb} {j:Cx} (h:j.zero=false):(m.by j).piv=m.piv.mul j:=by
 unfold Mb.piv
 rw [mul_zero_iff h]
 split<;>rfl
theorem nrm_by {m:Mb} {j:Cx} (h:j.zero=false):(m.by j).nrm=m.nrm:=by
 unfold Mb.nrm
 rw [piv_by h,div_mul_mul h,div_mul_mul h,div_mul_mul h,div_mul_mul h]
theorem add_mul' (x y z:Cx):(x.add y).mul z=(x.mul z).add (y.mul z):=Cx.ext' (by show (x.re+y.re)*z.re-(x.im+y.im)*z.im=x.re*z.re-x.im*z.im+(y.re*z.re-y.im*z.im);grind) (by show (x.re+y.re)*z.im+(x.im+y.im)*z.re=x.re*z.im+x.im*z.re+(y.re*z.im+y.im*z.re);grind)
theorem put_by (m:Mb) (j:Cx) (p:Pn):(m.by j).put p=((m.put p).1.mul j,(m.put p).2.mul j):=by
 unfold Mb.put
 split
 ·rfl
 ·rw [add_mul', add_mul', mul_assoc', mul_assoc', mul_assoc', mul_assoc', cmul_comm j]
theorem send_nrm {m:Mb} (h:m.piv.zero=false) (p:Pn):m.nrm.send p=m.send p:=by
 have h' := inv_zero h
 rw [nrm_by']
 unfold Mb.send
 rw [put_by]
 simp only [mul_zero_iff h', div_mul_mul h']
def Ci.at (c:Ci) (v w:Cx):Rat:=c.a*v.norm+c.c*w.norm+(((c.b.mul v).mul w.conj).re+((c.b.mul v).mul w.conj).re)
def Ci.mid (c:Ci) (n:Mb):Cx:=((((Cx.mk c.a 0).mul (n.a.mul n.b.conj)).add ((c.b.mul n.a).mul n.d.conj)).add ((c.b.mul n.b).conj.mul n.c)).add ((Cx.mk c.c 0).mul (n.c.mul n.d.conj))
def Ci.im (c:Ci) (n:Mb) (t:Bool):Ci:=⟨c.at n.a n.c,cjC t (c.mid n),c.at n.b n.d⟩
def Mb.img (m:Mb) (c:Ci):Ci:=c.im m.undo m.t
theorem norm_cj (t:Bool) (z:Cx):(cjC t z).norm=z.norm:=by
 cases t
 ·rfl
 ·show z.re*z.re+-z.im*-z.im=z.re*z.re+z.im*z.im;grind
theorem im_pow (c:Ci) (n:Mb) (t:Bool):(c.im n t).pow=c.pow*n.det.norm:=by
 show (cjC t (c.mid n)).norm-c.at n.a n.c*c.at n.b n.d=_
 rw [norm_cj]
 obtain ⟨A,⟨B1,B2⟩,C⟩:=c
 obtain ⟨⟨p1,p2⟩,⟨q1,q2⟩,⟨r1,r2⟩,⟨s1,s2⟩,u⟩:=n
 unfold Ci.mid Ci.at
 simp only [Cx.norm,Cx.mul,Cx.add,Cx.sub,Cx.conj,Mb.det,Ci.pow]
 grind
theorem at_eq (c:Ci) (v w:Cx):(0:Rat)+c.a*v.norm+(((c.b.mul v).mul w.conj).re+((c.b.mul v).mul w.conj).re)+c.c*w.norm=c.at v w:=by unfold Ci.at;grind
theorem mid_eq (c:Ci) (n:Mb):((((n.a.mul n.b.conj).scale c.a).add ((c.b.mul n.a).mul n.d.conj)).add ((c.b.mul n.b).conj.mul n.c)).add ((n.c.mul n.d.conj).scale c.c)=c.mid n:=by
 have e:∀ (z:Cx) (x:Rat),z.scale x=(Cx.mk x 0).mul z:=fun z x=>Cx.ext' (by show z.re*x=x*z.re-0*z.im;grind) (by show z.im*x=x*z.im+0*z.re;grind)
 unfold Ci.mid
 rw [e,e]
theorem det_by (m:Mb) (j:Cx):(m.by j).det=(m.det.mul j).mul j:=by
 obtain ⟨⟨p1,p2⟩,⟨q1,q2⟩,⟨r1,r2⟩,⟨s1,s2⟩,u⟩:=m
 obtain ⟨j1,j2⟩:=j
 exact Cx.ext' (by simp only [Mb.det,Mb.by,Cx.mul,Cx.sub];grind) (by simp only [Mb.det,Mb.by,Cx.mul,Cx.sub];grind)
theorem nrm_det {m:Mb} (h:m.det.zero=false):m.nrm.det.zero=false:=by
 have h' := inv_zero (det_piv h)
 rw [nrm_by', det_by,mul_zero_iff h', mul_zero_iff h'];exact h
theorem undo_det {m:Mb} (h:m.det.zero=false):m.undo.det.zero=false:=by
 cases e:m.t with
 | true=>rw [← undo_1 e];exact nrm_det (by rw [det_undoC,zero_conj];exact h)
 | false=>rw [← undo_0 e];exact nrm_det (by rw [det_undo];exact h)
theorem sq_nn (x:Rat):0≤x*x:=by
 rcases Rat.le_total (a:=0) (b:=x) with g|g
 ·exact Rat.mul_nonneg g g
 ·have g' : 0≤-x:=by grind
  have:=Rat.mul_nonneg g' g'
  grind
theorem norm_pos' {z:Cx} (h:z.zero=false):0<z.norm:=by
 have h1:z.norm≠0:=zero_norm h
 have h2:=sq_nn z.re
 have h3:=sq_nn z.im
 have h4:0≤z.norm:=by show 0≤z.re*z.re+z.im*z.im;grind
 grind
theorem img_pos {m:Mb} {c:Ci} (h:m.det.zero=false) (hc:c.pos=true):(m.img c).pos=true:=by
 rw [pos_iff] at hc ⊢
 unfold Mb.img
 rw [im_pow]
 exact Rat.mul_pos hc (norm_pos' (undo_det h))
theorem nrm_nrm {c:Ci} (h:c.flat=false):c.nrm.nrm=c.nrm:=by
 have hp:=piv_ne h
 have e:c.nrm.piv=1:=by
  have hi:c.piv⁻¹≠0:=fun e=>hp (by have:=Rat.inv_inv c.piv;rw [e] at this;rw [← this];decide +kernel)
  have z:∀ x:Rat,((x*c.piv⁻¹).num.sign == 0)=(x.num.sign == 0):=fun x=>by
   rw [Bool.eq_iff_iff,sgn_iff,sgn_iff,Rat.mul_eq_zero]
   exact ⟨fun h=>h.resolve_right hi,.inl⟩
  have e1:c.nrm.piv=c.piv*c.piv⁻¹:=by
   show (if ((c.a*c.piv⁻¹).num.sign == 0)=true then (if ((c.b.re*c.piv⁻¹).num.sign == 0)=true then c.b.im*c.piv⁻¹ else c.b.re*c.piv⁻¹) else c.a*c.piv⁻¹)=_
   rw [z,z]
   conv=>rhs;lhs;unfold Ci.piv
   split
   ·split<;>rfl
   ·rfl
  rw [e1];exact Rat.mul_inv_cancel _ hp
 generalize c.nrm=d at e
 unfold Ci.nrm
 rw [e]
 have o:(1:Rat)⁻¹=1:=by decide +kernel
 rw [o]
 show Ci.mk (d.a*1) ⟨d.b.re*1,d.b.im*1⟩ (d.c*1)=d
 simp only [Rat.mul_one]
def HB (z:Cx) (n:Nat):Prop:=ht z.re≤n∧ht z.im≤n
section
variable {x y z:Cx} {p q:Rat} {a b n:Nat}
theorem HB.two (h1:ht z.re≤a) (h2:ht z.im≤b) (n:Nat) (h:(Nat.ble a n&&Nat.ble b n)=true:=by decide):HB z n:=by
 simp only [Bool.and_eq_true,Nat.ble_eq] at h
 exact ⟨Nat.le_trans h1 h.1,Nat.le_trans h2 h.2⟩
theorem HB.mul (h1:HB x a) (h2:HB y b) (n:Nat) (h:2*a+2*b≤n:=by decide):HB (x.mul y) n:=by
 have:=hc_mul x y
 unfold HB at *;omega
theorem HB.add (h1:HB x a) (h2:HB y b) (n:Nat) (h:a+b≤n:=by decide):HB (x.add y) n:=by
 have:=hc_add x y
 unfold HB at *;omega
theorem HB.sub (h1:HB x a) (h2:HB y b) (n:Nat) (h:a+b≤n:=by decide):HB (x.sub y) n:=by
 have:=hc_sub x y
 unfold HB at *;omega
theorem HB.div (h1:HB x a) (h2:HB y b) (n:Nat) (h:6*a+6*b≤n:=by decide):HB (x.div y) n:=by
 have:=hc_div x y
 unfold HB at *;omega
theorem HB.neg (h1:HB x a):HB x.neg a:=by have:=hc_neg x;unfold HB at *;omega
theorem HB.conj (h1:HB x a):HB x.conj a:=by have:=hc_conj x;unfold HB at *;omega
theorem HB.cj (t:Bool) (h1:HB x a):HB (cjC t x) a:=by have:=cj_ht t x;unfold HB at *;omega
theorem HB.scale (h1:HB x a) (h2:ht p≤b) (n:Nat) (h:a+b≤n:=by decide):HB (x.scale p) n:=by
 have:=hc_scale x p
 unfold HB at *;omega
theorem HB.norm (h1:HB x a) (n:Nat) (h:4*a≤n:=by decide):ht x.norm≤n:=by
 have:=hc_norm x
 unfold HB at *;omega
theorem hb_add (h1:ht p≤a) (h2:ht q≤b) (n:Nat) (h:a+b≤n:=by decide):ht (p+q)≤n:=Nat.le_trans (ht_add p q) (Nat.le_trans (Nat.add_le_add h1 h2) h)
theorem hb_sub (h1:ht p≤a) (h2:ht q≤b) (n:Nat) (h:a+b≤n:=by decide):ht (p-q)≤n:=Nat.le_trans (ht_sub p q) (Nat.le_trans (Nat.add_le_add h1 h2) h)
theorem hb_mul (h1:ht p≤a) (h2:ht q≤b) (n:Nat) (h:a+b≤n:=by decide):ht (p*q)≤n:=Nat.le_trans (ht_mul p q) (Nat.le_trans (Nat.add_le_add h1 h2) h)
theorem hb_neg (h1:ht p≤a):ht (-p)≤a:=by rw [ht_neg];exact h1
theorem hb_inv (h1:ht p≤a):ht p⁻¹≤a:=by rw [ht_inv];exact h1
theorem hb_ci {c:Ci} (h:ht c.a+ht c.b.re+ht c.b.im+ht c.c≤n):ht c.a≤n∧HB c.b n∧ht c.c≤n:=by unfold HB;omega
theorem hb_cx (h:ht z.re+ht z.im≤n):HB z n:=by unfold HB;omega
end
structure PnF (P:Pn):Prop where
 z:P.inf=true→P.z=⟨0,0⟩
 f:pnfits P=true
theorem pnOk_ex {r:RPn} (h:pnOk r=true):∃ P,r=pnR P∧PnF P:=by
 unfold pnOk at h
 split at h
 ·have:=of_decide_eq_true h
  exact ⟨⟨true,⟨0,0⟩⟩,this,fun _=>rfl,rfl⟩
 ·rename_i hi
  obtain ⟨i,z⟩:=r
  cases i with
  | true=>exact absurd rfl hi
  | false =>
   obtain ⟨c,rfl⟩:=gmay_ex h
   rw [gmay_rg] at h
   exact ⟨⟨false,c⟩,rfl,⟨fun h=>(by cases h),h⟩⟩
theorem PnF.ht {P:Pn} (h:PnF P):ht P.z.re+ht P.z.im≤20000:=by
 cases e:P.inf with
 | true=>rw [h.z e];decide
 | false =>
  have:=h.f
  unfold pnfits at this
  rw [e] at this
  exact gfits_ht2 this
theorem at_T {m:Mb} {p:Pn} {a b:Cx} (e:m.put p=(a,b)) (h:b.zero=true):RPn.mk true rz=pnR (m.send p):=by rw [← send_T e h];rfl
theorem at_F {m:Mb} {p:Pn} {a b:Cx} (e:m.put p=(a,b)) (h:b.zero=false):RPn.mk false (rg (a.div b))=pnR (m.send p):=by rw [← send_F e h];rfl
theorem pnR_I {P:Pn} (h:PnF P) (e:P.inf=true):P=⟨true,⟨0,0⟩⟩:=by
 obtain ⟨i,z⟩:=P
 cases e
 have:=h.z rfl
 subst this;rfl
theorem img_1 {m:Mb} {c:Ci} (h:m.t=true):Ci.mk (c.at m.undo.a m.undo.c) (c.mid m.undo).conj (c.at m.undo.b m.undo.d)=m.img c:=by unfold Mb.img Ci.im cjC;rw [if_pos h]
theorem img_0 {m:Mb} {c:Ci} (h:m.t=false):Ci.mk (c.at m.undo.a m.undo.c) (c.mid m.undo) (c.at m.undo.b m.undo.d)=m.img c:=by unfold Mb.img Ci.im cjC;rw [if_neg (by rw [h];decide)]
section
variable {m:Mb} {c:Ci} (h:m.det.zero=false) (hc:c.pos=true)
include h hc
theorem imgF_1 (e:m.t=true):(Ci.mk (c.at m.undo.a m.undo.c) (c.mid m.undo).conj (c.at m.undo.b m.undo.d)).flat=false:=by rw [img_1 e];exact pos_flat (img_pos h hc)
theorem imgF_0 (e:m.t=false):(Ci.mk (c.at m.undo.a m.undo.c) (c.mid m.undo) (c.at m.undo.b m.undo.d)).flat=false:=by rw [img_0 e];exact pos_flat (img_pos h hc)
end
theorem imgE_1 {m:Mb} {c:Ci} (e:m.t=true):(Ci.mk (c.at m.undo.a m.undo.c) (((((m.undo.a.mul m.undo.b.conj).scale c.a).add ((c.b.mul m.undo.a).mul m.undo.d.conj)).add ((c.b.mul m.undo.b).conj.mul m.undo.c)).add ((m.undo.c.mul m.undo.d.conj).scale c.c)).conj (c.at m.undo.b m.undo.d)).nrm=(m.img c).nrm:=by rw [mid_eq,img_1 e]
theorem imgE_0 {m:Mb} {c:Ci} (e:m.t=false):(Ci.mk (c.at m.undo.a m.undo.c) (((((m.undo.a.mul m.undo.b.conj).scale c.a).add ((c.b.mul m.undo.a).mul m.undo.d.conj)).add ((c.b.mul m.undo.b).conj.mul m.undo.c)).add ((m.undo.c.mul m.undo.d.conj).scale c.c)) (c.at m.undo.b m.undo.d)).nrm=(m.img c).nrm:=by rw [mid_eq,img_0 e]
theorem imgF_1' {m:Mb} {c:Ci} (h:m.det.zero=false) (hc:c.pos=true) (e:m.t=true):(Ci.mk (c.at m.undo.a m.undo.c) (((((m.undo.a.mul m.undo.b.conj).scale c.a).add ((c.b.mul m.undo.a).mul m.undo.d.conj)).add ((c.b.mul m.undo.b).conj.mul m.undo.c)).add ((m.undo.c.mul m.undo.d.conj).scale c.c)).conj (c.at m.undo.b m.undo.d)).flat=false:=by rw [mid_eq];exact imgF_1 h hc e
theorem imgF_0' {m:Mb} {c:Ci} (h:m.det.zero=false) (hc:c.pos=true) (e:m.t=false):(Ci.mk (c.at m.undo.a m.undo.c) (((((m.undo.a.mul m.undo.b.conj).scale c.a).add ((c.b.mul m.undo.a).mul m.undo.d.conj)).add ((c.b.mul m.undo.b).conj.mul m.undo.c)).add ((m.undo.c.mul m.undo.d.conj).scale c.c)) (c.at m.undo.b m.undo.d)).flat=false:=by rw [mid_eq];exact imgF_0 h hc e
def Mb.ub (m:Mb) (n:Nat):Prop:=HB m.undo.a n∧HB m.undo.b n∧HB m.undo.c n∧HB m.undo.d n
theorem at_hb {c:Ci} {v w:Cx} {A B E n k:Nat} (h1:ht c.a≤A) (h2:HB c.b B) (h3:ht c.c≤E) (hv:HB v n) (hw:HB w k) (N:Nat) (h:A+4*n+E+4*k+2*(2*(2*B+2*n)+2*k)≤N:=by decide):ht (c.at v w)≤N:=by
 have k1:=HB.mul (HB.mul h2 hv (2*B+2*n) (Nat.le_refl _)) hw.conj (2*(2*B+2*n)+2*k) (Nat.le_refl _)
 have k2:=hb_add k1.1 k1.1 _ (Nat.le_refl _)
 have k3:=hb_mul h1 (hv.norm (4*n) (Nat.le_refl _)) _ (Nat.le_refl _)
 have k4:=hb_mul h3 (hw.norm (4*k) (Nat.le_refl _)) _ (Nat.le_refl _)
 exact hb_add (hb_add k3 k4 _ (Nat.le_refl _)) k2 N (by omega)
theorem over_nl {k:Ci} (h:ht k.a+ht k.b.re+ht k.b.im+ht k.c≤40000):ht k.over.nrm.a.re+ht k.over.nrm.a.im+ht k.over.nrm.b.re+ht k.over.nrm.b.im+ht k.over.nrm.c.re+ht k.over.nrm.c.im+ht k.over.nrm.d.re+ht k.over.nrm.d.im≤60000000:=by
 have h0:=over_l2 h
 have h1:=mnrm_ht k.over
 have h2:=mpiv_ht k.over
 unfold Mb.hh Cx.hh at h2
 unfold Cx.hh at h1
 generalize k.over=y at *
 omega
theorem pnOk_pnR {P:Pn} (h:PnF P):pnOk (pnR P)=true:=by
 have hf:=h.f
 obtain ⟨i,z⟩:=P
 cases i with
 | true=>exact decide_eq_true (p:=RPn.mk true rz=RPn.mk true rz) rfl
 | false =>
  show gmay (rg z)=true
  rw [gmay_rg];exact hf
theorem sendZ {m:Mb} {p:Pn}:(m.send p).inf=true→(m.send p).z=⟨0,0⟩:=by
 unfold Mb.send
 split
 ·exact fun _=>rfl
 ·exact fun h=>by cases h
def lgC (c:RCi):Bool:=lgF c.a||lgG c.b||lgF c.c
end Go.Proofs.YtcpjdjnaipbieaaGreat
namespace Go.Proofs.YtcpjdjnaipbieaaGreat
open Go.RowKit Rgn Eng
set_option maxHeartbeats 8000000
set_option maxRecDepth 100000
variable {S:Nat→Prop} {W:World}
theorem p7May (r:RPn):Calls Tryz.prog 90 #[rpnV r] W (RetV (.bool (pnOk r)) W):=by
 refine Run.goP (S:=Z0) (Pack.nil.k (rpnV r) (rpnC r).toList (.s (.agg (ks 0 9)))) Tryz.func90 rfl ?_
 refine (Bool.eq_false_or_eq_true (r.inf)).elim (fun c1=>?_) (fun c1=>?_)
 · refine Run.kn c1 ?_
   refine Run.bi [.bool (decide (r=RPn.mk true rz))] kb (fun _ _ _ o1 o2 _ ho hx hy=>ex_eql_pn (r:=r) (q:=(RPn.mk true rz)) o1 o2 ho hx hy rfl) ?_
   exact Run.rV (spot_1 c1)
 · refine Run.kn c1 ?_
   refine Run.cV [.bool (gmay r.z)] kb (fun _ _ _ H=>cMay r.z) ?_
   exact Run.rV (spot_0 c1)
theorem p11May (r:RPn):Calls Tryz.prog 38 #[rpnV r] W (RetV (.bool (pnOk r)) W):=by
 refine Run.goP (S:=Z0) (Pack.nil.k (rpnV r) (rpnC r).toList (.s (.agg (ks 0 9)))) Tryz.func38 rfl ?_
 refine Run.cV [.bool (pnOk r)] kb (fun _ _ _ H=>p7May r) ?_
 exact Run.rV rfl
theorem l14wide {b0:Nat} (c:RCi) (d:RCi) (B0:W.heap[b0]? = some (.cells (rciC c++rciC d) 47 (0,0))):Calls Tryz.prog 30 #[.slice (some ⟨b0,0,none⟩) 2 2] W (RetV (.bool (lgC c||lgC d)) W):=by
 refine Run.goP (S:=Z0) (Pack.nil.b B0 (some 2) 32) Tryz.func30 rfl ?_
 refine Run.cV [.bool (lgF c.a)] kb (fun _ _ _ H=>l14longF c.a) ?_
 refine (Bool.eq_false_or_eq_true (lgF c.a)).elim (fun c1=>?_) (fun c1=>?_)
 · refine Run.kn c1 ?_
   exact Run.rV (V' := .bool true) ((by unfold lgC;simp [c1]))
 · refine Run.kn c1 ?_
   refine Run.cV [.bool (lgG c.b)] kb (fun _ _ _ H=>l14long1 c.b (H.b 1)) ?_
   refine (Bool.eq_false_or_eq_true (lgG c.b)).elim (fun c2=>?_) (fun c2=>?_)
   · refine Run.kn c2 ?_
     exact Run.rV (V' := .bool true) ((by unfold lgC;simp [c1,c2]))
   · refine Run.kn c2 ?_
     refine Run.cV [.bool (lgF c.c)] kb (fun _ _ _ H=>l14longF c.c) ?_
     refine (Bool.eq_false_or_eq_true (lgF c.c)).elim (fun c3=>?_) (fun c3=>?_)
     · refine Run.kn c3 ?_
       exact Run.rV (V' := .bool true) ((by unfold lgC;simp [c1,c2,c3]))
     · refine Run.kn c3 ?_
       refine Run.cV [.bool (lgF d.a)] kb (fun _ _ _ H=>l14longF d.a) ?_
       refine (Bool.eq_false_or_eq_true (lgF d.a)).elim (fun c4=>?_) (fun c4=>?_)
       · refine Run.kn c4 ?_
         exact Run.rV (V' := .bool true) ((by unfold lgC;simp [c1,c2,c3,c4]))
       · refine Run.kn c4 ?_
         refine Run.cV [.bool (lgG d.b)] kb (fun _ _ _ H=>l14long1 d.b (H.b 2)) ?_
         refine (Bool.eq_false_or_eq_true (lgG d.b)).elim (fun c5=>?_) (fun c5=>?_)
         · refine Run.kn c5 ?_
           exact Run.rV (V' := .bool true) ((by unfold lgC;simp [c1,c2,c3,c4,c5]))
         · refine Run.kn c5 ?_
           refine Run.cV [.bool (lgF d.c)] kb (fun _ _ _ H=>l14longF d.c) ?_
           refine (Bool.eq_false_or_eq_true (lgF d.c)).elim (fun c6=>?_) (fun c6=>?_)
           · refine Run.kn c6 ?_
             exact Run.rV (V' := .bool true) ((by unfold lgC;simp [c1,c2,c3,c4,c5,c6]))
           · refine Run.kn c6 ?_
             exact Run.rV (V' := .bool false) ((by unfold lgC;simp [c1,c2,c3,c4,c5,c6]))
theorem m8AtI (m:Mb) (p0:ht m.a.re+ht m.a.im+ht m.b.re+ht m.b.im+ht m.c.re+ht m.c.im+ht m.d.re+ht m.d.im≤67108864):Calls Tryz.prog 40 #[mbV m,rpnV (RPn.mk true rz)] W (RetV (rpnV (pnR (m.send ⟨true,⟨0,0⟩⟩))) W):=by
 have k0:=hc_div m.a m.c
 refine Run.goP (S:=Z0) ((Pack.nil.k (mbV m) (mbC m).toList (.s (.agg (ks 0 33)))).k (rpnV (RPn.mk true rz)) (rpnC (RPn.mk true rz)).toList (.s (.agg (ks 0 9)))) Tryz.func40 rfl ?_
 refine Run.kn (b:=true) rfl ?_
 refine Run.cV [.bool m.c.zero] kb (fun _ _ _ H=>cZero m.c) ?_
 refine (Bool.eq_false_or_eq_true (m.c.zero)).elim (fun c1=>?_) (fun c1=>?_)
 · refine Run.kn c1 ?_
   exact Run.rV (congrArg rpnV (at_T (put_i (p:=⟨true,⟨0,0⟩⟩) rfl) c1))
 · refine Run.kn c1 ?_
   refine Run.cV (gC (m.a.div m.c)).toList (.s (.agg (ks 0 8))) (fun _ _ _ H=>cOver m.a m.c (by first|omega|(dsimp only at *;omega)|exact zero_norm c1) (by first|omega|(dsimp only at *;omega)|exact zero_norm c1)) ?_
   exact Run.rV (congrArg rpnV (at_F (put_i (p:=⟨true,⟨0,0⟩⟩) rfl) c1))
theorem m8AtZ (z:Cx) (m:Mb) (p0:ht m.a.re+ht m.a.im+ht m.b.re+ht m.b.im+ht m.c.re+ht m.c.im+ht m.d.re+ht m.d.im+(ht z.re+ht z.im)≤67108864):Calls Tryz.prog 40 #[mbV m,pnV (Pn.mk false z)] W (RetV (rpnV (pnR (m.send ⟨false,z⟩))) W):=by
 have k0:=hc_conj z
 have k1:=hc_mul m.c z.conj
 have k2:=hc_add (m.c.mul z.conj) m.d
 have k3:=hc_mul m.a z.conj
 have k4:=hc_add (m.a.mul z.conj) m.b
 have k5:=hc_div ((m.a.mul z.conj).add m.b) ((m.c.mul z.conj).add m.d)
 have k6:=hc_mul m.c z
 have k7:=hc_add (m.c.mul z) m.d
 have k8:=hc_mul m.a z
 have k9:=hc_add (m.a.mul z) m.b
 have k10:=hc_div ((m.a.mul z).add m.b) ((m.c.mul z).add m.d)
 refine Run.goP (S:=Z0) ((Pack.nil.k (mbV m) (mbC m).toList (.s (.agg (ks 0 33)))).k (pnV (Pn.mk false z)) (pnC (Pn.mk false z)).toList (.s (.agg (ks 0 9)))) Tryz.func40 rfl ?_
 refine Run.kn (b:=false) rfl ?_
 refine (Bool.eq_false_or_eq_true (m.t)).elim (fun c1=>?_) (fun c1=>?_)
 · refine Run.kn c1 ?_
   refine Run.cV (gC z.conj).toList (.s (.agg (ks 0 8))) (fun _ _ _ H=>cConj z) ?_
   refine Run.dr ?_
   refine RunD.cV (gC (m.c.mul z.conj)).toList (.s (.agg (ks 0 8))) (fun _ _ _ H=>cTimes m.c z.conj (by first|omega|(dsimp only at *;omega)|exact zero_norm _)) ?_
   refine RunD.cV (gC ((m.c.mul z.conj).add m.d)).toList (.s (.agg (ks 0 8))) (fun _ _ _ H=>cPlus (m.c.mul z.conj) m.d (by first|omega|(dsimp only at *;omega)|exact zero_norm _)) ?_
   refine RunD.en ?_
   refine Run.cV [.bool (((m.c.mul z.conj).add m.d).zero)] kb (fun _ _ _ H=>cZero ((m.c.mul z.conj).add m.d)) ?_
   refine (Bool.eq_false_or_eq_true (((m.c.mul z.conj).add m.d).zero)).elim (fun c2=>?_) (fun c2=>?_)
   · refine Run.kn c2 ?_
     exact Run.rV (congrArg rpnV (at_T (put_n1 (p:=⟨false,z⟩) rfl c1) c2))
   · refine Run.kn c2 ?_
     refine Run.dr ?_
     refine RunD.cV (gC (m.a.mul z.conj)).toList (.s (.agg (ks 0 8))) (fun _ _ _ H=>cTimes m.a z.conj (by first|omega|(dsimp only at *;omega)|exact zero_norm c2)) ?_
     refine RunD.cV (gC ((m.a.mul z.conj).add m.b)).toList (.s (.agg (ks 0 8))) (fun _ _ _ H=>cPlus (m.a.mul z.conj) m.b (by first|omega|(dsimp only at *;omega)|exact zero_norm c2)) ?_
     refine RunD.cV (gC (((m.a.mul z.conj).add m.b).div ((m.c.mul z.conj).add m.d))).toList (.s (.agg (ks 0 8))) (fun _ _ _ H=>cOver ((m.a.mul z.conj).add m.b) ((m.c.mul z.conj).add m.d) (by first|omega|(dsimp only at *;omega)|exact zero_norm c2) (by first|omega|(dsimp only at *;omega)|exact zero_norm c2)) ?_
     refine RunD.en ?_
     exact Run.rV (congrArg rpnV (at_F (put_n1 (p:=⟨false,z⟩) rfl c1) c2))
 · refine Run.kn c1 ?_
   refine Run.dr ?_
   refine RunD.cV (gC (m.c.mul z)).toList (.s (.agg (ks 0 8))) (fun _ _ _ H=>cTimes m.c z (by first|omega|(dsimp only at *;omega)|exact zero_norm _)) ?_
   refine RunD.cV (gC ((m.c.mul z).add m.d)).toList (.s (.agg (ks 0 8))) (fun _ _ _ H=>cPlus (m.c.mul z) m.d (by first|omega|(dsimp only at *;omega)|exact zero_norm _)) ?_
   refine RunD.en ?_
   refine Run.cV [.bool (((m.c.mul z).add m.d).zero)] kb (fun _ _ _ H=>cZero ((m.c.mul z).add m.d)) ?_
   refine (Bool.eq_false_or_eq_true (((m.c.mul z).add m.d).zero)).elim (fun c3=>?_) (fun c3=>?_)
   · refine Run.kn c3 ?_
     exact Run.rV (congrArg rpnV (at_T (put_n0 (p:=⟨false,z⟩) rfl c1) c3))
   · refine Run.kn c3 ?_
     refine Run.dr ?_
     refine RunD.cV (gC (m.a.mul z)).toList (.s (.agg (ks 0 8))) (fun _ _ _ H=>cTimes m.a z (by first|omega|(dsimp only at *;omega)|exact zero_norm c3)) ?_
     refine RunD.cV (gC ((m.a.mul z).add m.b)).toList (.s (.agg (ks 0 8))) (fun _ _ _ H=>cPlus (m.a.mul z) m.b (by first|omega|(dsimp only at *;omega)|exact zero_norm c3)) ?_
     refine RunD.cV (gC (((m.a.mul z).add m.b).div ((m.c.mul z).add m.d))).toList (.s (.agg (ks 0 8))) (fun _ _ _ H=>cOver ((m.a.mul z).add m.b) ((m.c.mul z).add m.d) (by first|omega|(dsimp only at *;omega)|exact zero_norm c3) (by first|omega|(dsimp only at *;omega)|exact zero_norm c3)) ?_
     refine RunD.en ?_
     exact Run.rV (congrArg rpnV (at_F (put_n0 (p:=⟨false,z⟩) rfl c1) c3))
structure R4 where
 a:Rat
 b:Rat
 c:Rat
 d:Rat
@[reducible] def R4.L (x:R4):List Value:=(fC x.a).toList++(fC x.b).toList++(fC x.c).toList++(fC x.d).toList
@[reducible] def R4.V (x:R4):Value:=.agg ⟨x.L⟩
def R4.le (x:R4) (n:Nat):Prop:=ht x.a≤n∧ht x.b≤n∧ht x.c≤n∧ht x.d≤n
def askR (c:Ci):R4:=⟨c.c*Rat.divInt 1 2,-c.b.re,-c.b.im,c.a*Rat.divInt 1 2⟩
def thrR (p:Pn):R4:=match p.inf with
 | true=>⟨((1:Int):Rat),((0:Int):Rat),((0:Int):Rat),((0:Int):Rat)⟩
 | false=>⟨p.z.norm,((2:Int):Rat)*p.z.re,-(((2:Int):Rat)*p.z.im),((1:Int):Rat)⟩
def dt3 (x1 x2 x3 y1 y2 y3 z1 z2 z3:Rat):Rat :=
 ((0:Int):Rat)+(x1*(y2*z3)-x1*(y3*z2))+(x2*(y3*z1)-x2*(y1*z3))+(x3*(y1*z2)-x3*(y2*z1))
def mnr (x y z:R4):Nat→Rat
 | 0=>dt3 x.b x.c x.d y.b y.c y.d z.b z.c z.d
 | 1=>-dt3 x.a x.c x.d y.a y.c y.d z.a z.c z.d
 | 2=>dt3 x.a x.b x.d y.a y.b y.d z.a z.b z.d
 | _=>-dt3 x.a x.b x.c y.a y.b y.c z.a z.b z.c
def comK (c d:Ci) (p:Pn):Ci:=⟨mnr (askR c) (askR d) (thrR p) 0,⟨mnr (askR c) (askR d) (thrR p) 1,mnr (askR c) (askR d) (thrR p) 2⟩,mnr (askR c) (askR d) (thrR p) 3⟩
theorem lf2 {x y:Rat} {a b:Nat} (h1:ht x≤a) (h2:ht y≤b) (h:a+b≤68719476736:=by decide):ht x+ht y≤68719476736:=Nat.le_trans (Nat.add_le_add h1 h2) h
theorem half_ht:ht (Rat.divInt (1:Int) (2:Int))≤3:=by decide
theorem two_ht:ht ((2:Int):Rat)≤4:=by decide
theorem one_htI:ht ((1:Int):Rat)≤3:=by decide
theorem zer_htI:ht ((0:Int):Rat)≤2:=by decide
theorem ask_le {c:Ci} (h:ht c.a+ht c.b.re+ht c.b.im+ht c.c≤40000):(askR c).le 100000:=by
 obtain ⟨h1,h2,h3⟩:=hb_ci h
 have k1:=hb_mul h3 half_ht 100000
 have k2:=hb_mul h1 half_ht 100000
 have k3:=hb_neg h2.1
 have k4:=hb_neg h2.2
 exact ⟨k1,by show ht (-c.b.re)≤_;omega,by show ht (-c.b.im)≤_;omega,k2⟩
theorem thr_le {p:Pn} (h:PnF p):(thrR p).le 100000:=by
 have h1:=hb_cx h.ht
 unfold thrR
 cases p.inf with
 | true=>exact ⟨Nat.le_trans one_htI (by decide),Nat.le_trans zer_htI (by decide),Nat.le_trans zer_htI (by decide),Nat.le_trans zer_htI (by decide)⟩
 | false =>
  have k2:=hb_mul two_ht h1.1 100000
  have k3:=hb_neg (hb_mul two_ht h1.2 100000)
  exact ⟨h1.norm 100000,k2,k3,Nat.le_trans one_htI (by decide)⟩
theorem r14Ask (c:Ci) (p0:ht c.a+ht c.b.re+ht c.b.im+ht c.c≤40000):Calls Tryz.prog 194 #[ciV c] W (RetV (askR c).V W):=by
 have z2:=half_ht
 refine Run.goP (S:=Z0) (Pack.nil.k (ciV c) (ciC c).toList (.s (.agg (ks 0 16)))) Tryz.func194 rfl ?_
 refine Run.cV (fC (Rat.divInt 1 2)).toList (.s (.agg (ks 0 4))) (fun _ _ _ H=>r3Small 1 2 (by decide) (by decide) (by decide) (by decide) (by decide)) ?_
 refine Run.dr ?_
 refine RunD.cV (fC (c.c*Rat.divInt 1 2)).toList (.s (.agg (ks 0 4))) (fun _ _ _ H=>fTimes c.c (Rat.divInt 1 2) (by omega)) ?_
 refine RunD.cV (fC (-c.b.re)).toList (.s (.agg (ks 0 4))) (fun _ _ _ H=>fNeg c.b.re) ?_
 refine RunD.cV (fC (-c.b.im)).toList (.s (.agg (ks 0 4))) (fun _ _ _ H=>fNeg c.b.im) ?_
 refine RunD.cV (fC (c.a*Rat.divInt 1 2)).toList (.s (.agg (ks 0 4))) (fun _ _ _ H=>fTimes c.a (Rat.divInt 1 2) (by omega)) ?_
 refine RunD.en ?_
 exact Run.rV rfl
theorem r14Thr (p:Pn) (p0:PnF p):Calls Tryz.prog 195 #[rpnV (pnR p)] W (RetV (thrR p).V W):=by
 have h1:=hb_cx p0.ht
 rcases Bool.eq_false_or_eq_true p.inf with c|c
 · rw [show pnR p=⟨true,rz⟩ by unfold pnR;rw [if_pos c]]
   refine Run.goP (S:=Z0) (Pack.nil.k (rpnV ⟨true,rz⟩) (rpnC ⟨true,rz⟩).toList (.s (.agg (ks 0 9)))) Tryz.func195 rfl ?_
   refine Run.kn (b:=true) (c:=true) rfl ?_
   refine Run.cV (fC ((1:Int):Rat)).toList (.s (.agg (ks 0 4))) (fun _ _ _ H=>fInt 1 (by decide) (by decide)) ?_
   refine Run.cV (fC ((0:Int):Rat)).toList (.s (.agg (ks 0 4))) (fun _ _ _ H=>fInt 0 (by decide) (by decide)) ?_
   refine Run.cV (fC ((0:Int):Rat)).toList (.s (.agg (ks 0 4))) (fun _ _ _ H=>fInt 0 (by decide) (by decide)) ?_
   refine Run.cV (fC ((0:Int):Rat)).toList (.s (.agg (ks 0 4))) (fun _ _ _ H=>fInt 0 (by decide) (by decide)) ?_
   rw [show (thrR p)=⟨((1:Int):Rat),((0:Int):Rat),((0:Int):Rat),((0:Int):Rat)⟩ by unfold thrR;rw [c]]
   exact Run.rV rfl
 · rw [show pnR p=⟨false,rg p.z⟩ by unfold pnR;rw [if_neg (by rw [c];decide)]]
   refine Run.goP (S:=Z0) (Pack.nil.k (rpnV ⟨false,rg p.z⟩) (rpnC ⟨false,rg p.z⟩).toList (.s (.agg (ks 0 9)))) Tryz.func195 rfl ?_
   refine Run.kn (b:=false) (c:=false) rfl ?_
   refine Run.cV (fC ((2:Int):Rat)).toList (.s (.agg (ks 0 4))) (fun _ _ _ H=>fInt 2 (by decide) (by decide)) ?_
   refine Run.dr ?_
   refine RunD.cV (fC p.z.norm).toList (.s (.agg (ks 0 4))) (fun _ _ _ H=>cNorm p.z (by have:=p0.ht;omega)) ?_
   refine RunD.cV (fC (((2:Int):Rat)*p.z.re)).toList (.s (.agg (ks 0 4))) (fun _ _ _ H=>fTimes ((2:Int):Rat) p.z.re (lf2 two_ht h1.1)) ?_
   refine RunD.cV (fC (((2:Int):Rat)*p.z.im)).toList (.s (.agg (ks 0 4))) (fun _ _ _ H=>fTimes ((2:Int):Rat) p.z.im (lf2 two_ht h1.2)) ?_
   refine RunD.cV (fC (-(((2:Int):Rat)*p.z.im))).toList (.s (.agg (ks 0 4))) (fun _ _ _ H=>fNeg (((2:Int):Rat)*p.z.im)) ?_
   refine RunD.cV (fC ((1:Int):Rat)).toList (.s (.agg (ks 0 4))) (fun _ _ _ H=>fInt 1 (by decide) (by decide)) ?_
   refine RunD.en ?_
   rw [show (thrR p)=⟨p.z.norm,((2:Int):Rat)*p.z.re,-(((2:Int):Rat)*p.z.im),((1:Int):Rat)⟩ by unfold thrR;rw [c]]
   exact Run.rV rfl
theorem r14Mn0 (x y z:R4) (p0:x.le 100000) (p1:y.le 100000) (p2:z.le 100000):Calls Tryz.prog 196 #[.agg ⟨x.L++y.L++z.L⟩,.int .i64 0] W (RetV (fV (mnr x y z 0)) W):=by
 obtain ⟨hx1,hx2,hx3,hx4⟩:=p0
 obtain ⟨hy1,hy2,hy3,hy4⟩:=p1
 obtain ⟨hz1,hz2,hz3,hz4⟩:=p2
 refine Run.goP (S:=Z0) ((Pack.nil.k (.agg ⟨x.L++y.L++z.L⟩) (x.L++y.L++z.L) (.s (.agg (ks 0 48)))).k (.int .i64 0) [] (.s (.o (.c (.int .i64 0))))) Tryz.func196 rfl ?_
 refine Run.cV (fC ((0:Int):Rat)).toList (.s (.agg (ks 0 4))) (fun _ _ _ H=>fInt 0 (by decide) (by decide)) ?_
 have g00:=hb_mul hy3 hz4 200000
 have e00:=hb_mul hx2 g00 300000
 refine Run.dr ?_
 refine RunD.cV (fC (y.c*z.d)).toList (.s (.agg (ks 0 4))) (fun _ _ _ H=>fTimes _ _ (lf2 hy3 hz4)) ?_
 refine RunD.cV (fC (x.b*(y.c*z.d))).toList (.s (.agg (ks 0 4))) (fun _ _ _ H=>fTimes _ _ (lf2 hx2 g00)) ?_
 refine RunD.en ?_
 have g01:=hb_mul hy4 hz3 200000
 have e01:=hb_mul hx2 g01 300000
 refine Run.dr ?_
 refine RunD.cV (fC (y.d*z.c)).toList (.s (.agg (ks 0 4))) (fun _ _ _ H=>fTimes _ _ (lf2 hy4 hz3)) ?_
 refine RunD.cV (fC (x.b*(y.d*z.c))).toList (.s (.agg (ks 0 4))) (fun _ _ _ H=>fTimes _ _ (lf2 hx2 g01)) ?_
 refine RunD.en ?_
 have d0:=hb_sub e00 e01 600000
 refine Run.dr ?_
 refine RunD.cV (fC (x.b*(y.c*z.d)-x.b*(y.d*z.c))).toList (.s (.agg (ks 0 4))) (fun _ _ _ H=>fMinus _ _ (lf2 e00 e01)) ?_
 refine RunD.cV (fC (((0:Int):Rat)+(x.b*(y.c*z.d)-x.b*(y.d*z.c)))).toList (.s (.agg (ks 0 4))) (fun _ _ _ H=>fPlus _ _ (lf2 zer_htI d0)) ?_
 refine RunD.en ?_
 have s0:=hb_add zer_htI d0 600002
 have g10:=hb_mul hy4 hz2 200000
 have e10:=hb_mul hx3 g10 300000
 refine Run.dr ?_
 refine RunD.cV (fC (y.d*z.b)).toList (.s (.agg (ks 0 4))) (fun _ _ _ H=>fTimes _ _ (lf2 hy4 hz2)) ?_
 refine RunD.cV (fC (x.c*(y.d*z.b))).toList (.s (.agg (ks 0 4))) (fun _ _ _ H=>fTimes _ _ (lf2 hx3 g10)) ?_
 refine RunD.en ?_
 have g11:=hb_mul hy2 hz4 200000
 have e11:=hb_mul hx3 g11 300000
 refine Run.dr ?_
 refine RunD.cV (fC (y.b*z.d)).toList (.s (.agg (ks 0 4))) (fun _ _ _ H=>fTimes _ _ (lf2 hy2 hz4)) ?_
 refine RunD.cV (fC (x.c*(y.b*z.d))).toList (.s (.agg (ks 0 4))) (fun _ _ _ H=>fTimes _ _ (lf2 hx3 g11)) ?_
 refine RunD.en ?_
 have d1:=hb_sub e10 e11 600000
 refine Run.dr ?_
 refine RunD.cV (fC (x.c*(y.d*z.b)-x.c*(y.b*z.d))).toList (.s (.agg (ks 0 4))) (fun _ _ _ H=>fMinus _ _ (lf2 e10 e11)) ?_
 refine RunD.cV (fC (((0:Int):Rat)+(x.b*(y.c*z.d)-x.b*(y.d*z.c))+(x.c*(y.d*z.b)-x.c*(y.b*z.d)))).toList (.s (.agg (ks 0 4))) (fun _ _ _ H=>fPlus _ _ (lf2 s0 d1)) ?_
 refine RunD.en ?_
 have s1:=hb_add s0 d1 1200002
 have g20:=hb_mul hy2 hz3 200000
 have e20:=hb_mul hx4 g20 300000
 refine Run.dr ?_
 refine RunD.cV (fC (y.b*z.c)).toList (.s (.agg (ks 0 4))) (fun _ _ _ H=>fTimes _ _ (lf2 hy2 hz3)) ?_
 refine RunD.cV (fC (x.d*(y.b*z.c))).toList (.s (.agg (ks 0 4))) (fun _ _ _ H=>fTimes _ _ (lf2 hx4 g20)) ?_
 refine RunD.en ?_
 have g21:=hb_mul hy3 hz2 200000
 have e21:=hb_mul hx4 g21 300000
 refine Run.dr ?_
 refine RunD.cV (fC (y.c*z.b)).toList (.s (.agg (ks 0 4))) (fun _ _ _ H=>fTimes _ _ (lf2 hy3 hz2)) ?_
 refine RunD.cV (fC (x.d*(y.c*z.b))).toList (.s (.agg (ks 0 4))) (fun _ _ _ H=>fTimes _ _ (lf2 hx4 g21)) ?_
 refine RunD.en ?_
 have d2:=hb_sub e20 e21 600000
 refine Run.dr ?_
 refine RunD.cV (fC (x.d*(y.b*z.c)-x.d*(y.c*z.b))).toList (.s (.agg (ks 0 4))) (fun _ _ _ H=>fMinus _ _ (lf2 e20 e21)) ?_
 refine RunD.cV (fC (((0:Int):Rat)+(x.b*(y.c*z.d)-x.b*(y.d*z.c))+(x.c*(y.d*z.b)-x.c*(y.b*z.d))+(x.d*(y.b*z.c)-x.d*(y.c*z.b)))).toList (.s (.agg (ks 0 4))) (fun _ _ _ H=>fPlus _ _ (lf2 s1 d2)) ?_
 refine RunD.en ?_
 have s2:=hb_add s1 d2 1800002
 exact Run.rV rfl
theorem r14Mn1 (x y z:R4) (p0:x.le 100000) (p1:y.le 100000) (p2:z.le 100000):Calls Tryz.prog 196 #[.agg ⟨x.L++y.L++z.L⟩,.int .i64 1] W (RetV (fV (mnr x y z 1)) W):=by
 obtain ⟨hx1,hx2,hx3,hx4⟩:=p0
 obtain ⟨hy1,hy2,hy3,hy4⟩:=p1
 obtain ⟨hz1,hz2,hz3,hz4⟩:=p2
 refine Run.goP (S:=Z0) ((Pack.nil.k (.agg ⟨x.L++y.L++z.L⟩) (x.L++y.L++z.L) (.s (.agg (ks 0 48)))).k (.int .i64 1) [] (.s (.o (.c (.int .i64 1))))) Tryz.func196 rfl ?_
 refine Run.cV (fC ((0:Int):Rat)).toList (.s (.agg (ks 0 4))) (fun _ _ _ H=>fInt 0 (by decide) (by decide)) ?_
 have g00:=hb_mul hy3 hz4 200000
 have e00:=hb_mul hx1 g00 300000
 refine Run.dr ?_
 refine RunD.cV (fC (y.c*z.d)).toList (.s (.agg (ks 0 4))) (fun _ _ _ H=>fTimes _ _ (lf2 hy3 hz4)) ?_
 refine RunD.cV (fC (x.a*(y.c*z.d))).toList (.s (.agg (ks 0 4))) (fun _ _ _ H=>fTimes _ _ (lf2 hx1 g00)) ?_
 refine RunD.en ?_
 have g01:=hb_mul hy4 hz3 200000
 have e01:=hb_mul hx1 g01 300000
 refine Run.dr ?_
 refine RunD.cV (fC (y.d*z.c)).toList (.s (.agg (ks 0 4))) (fun _ _ _ H=>fTimes _ _ (lf2 hy4 hz3)) ?_
 refine RunD.cV (fC (x.a*(y.d*z.c))).toList (.s (.agg (ks 0 4))) (fun _ _ _ H=>fTimes _ _ (lf2 hx1 g01)) ?_
 refine RunD.en ?_
 have d0:=hb_sub e00 e01 600000
 refine Run.dr ?_
 refine RunD.cV (fC (x.a*(y.c*z.d)-x.a*(y.d*z.c))).toList (.s (.agg (ks 0 4))) (fun _ _ _ H=>fMinus _ _ (lf2 e00 e01)) ?_
 refine RunD.cV (fC (((0:Int):Rat)+(x.a*(y.c*z.d)-x.a*(y.d*z.c)))).toList (.s (.agg (ks 0 4))) (fun _ _ _ H=>fPlus _ _ (lf2 zer_htI d0)) ?_
 refine RunD.en ?_
 have s0:=hb_add zer_htI d0 600002
 have g10:=hb_mul hy4 hz1 200000
 have e10:=hb_mul hx3 g10 300000
 refine Run.dr ?_
 refine RunD.cV (fC (y.d*z.a)).toList (.s (.agg (ks 0 4))) (fun _ _ _ H=>fTimes _ _ (lf2 hy4 hz1)) ?_
 refine RunD.cV (fC (x.c*(y.d*z.a))).toList (.s (.agg (ks 0 4))) (fun _ _ _ H=>fTimes _ _ (lf2 hx3 g10)) ?_
 refine RunD.en ?_
 have g11:=hb_mul hy1 hz4 200000
 have e11:=hb_mul hx3 g11 300000
 refine Run.dr ?_
 refine RunD.cV (fC (y.a*z.d)).toList (.s (.agg (ks 0 4))) (fun _ _ _ H=>fTimes _ _ (lf2 hy1 hz4)) ?_
 refine RunD.cV (fC (x.c*(y.a*z.d))).toList (.s (.agg (ks 0 4))) (fun _ _ _ H=>fTimes _ _ (lf2 hx3 g11)) ?_
 refine RunD.en ?_
 have d1:=hb_sub e10 e11 600000
 refine Run.dr ?_
 refine RunD.cV (fC (x.c*(y.d*z.a)-x.c*(y.a*z.d))).toList (.s (.agg (ks 0 4))) (fun _ _ _ H=>fMinus _ _ (lf2 e10 e11)) ?_
 refine RunD.cV (fC (((0:Int):Rat)+(x.a*(y.c*z.d)-x.a*(y.d*z.c))+(x.c*(y.d*z.a)-x.c*(y.a*z.d)))).toList (.s (.agg (ks 0 4))) (fun _ _ _ H=>fPlus _ _ (lf2 s0 d1)) ?_
 refine RunD.en ?_
 have s1:=hb_add s0 d1 1200002
 have g20:=hb_mul hy1 hz3 200000
 have e20:=hb_mul hx4 g20 300000
 refine Run.dr ?_
 refine RunD.cV (fC (y.a*z.c)).toList (.s (.agg (ks 0 4))) (fun _ _ _ H=>fTimes _ _ (lf2 hy1 hz3)) ?_
 refine RunD.cV (fC (x.d*(y.a*z.c))).toList (.s (.agg (ks 0 4))) (fun _ _ _ H=>fTimes _ _ (lf2 hx4 g20)) ?_
 refine RunD.en ?_
 have g21:=hb_mul hy3 hz1 200000
 have e21:=hb_mul hx4 g21 300000
 refine Run.dr ?_
 refine RunD.cV (fC (y.c*z.a)).toList (.s (.agg (ks 0 4))) (fun _ _ _ H=>fTimes _ _ (lf2 hy3 hz1)) ?_
 refine RunD.cV (fC (x.d*(y.c*z.a))).toList (.s (.agg (ks 0 4))) (fun _ _ _ H=>fTimes _ _ (lf2 hx4 g21)) ?_
 refine RunD.en ?_
 have d2:=hb_sub e20 e21 600000
 refine Run.dr ?_
 refine RunD.cV (fC (x.d*(y.a*z.c)-x.d*(y.c*z.a))).toList (.s (.agg (ks 0 4))) (fun _ _ _ H=>fMinus _ _ (lf2 e20 e21)) ?_
 refine RunD.cV (fC (((0:Int):Rat)+(x.a*(y.c*z.d)-x.a*(y.d*z.c))+(x.c*(y.d*z.a)-x.c*(y.a*z.d))+(x.d*(y.a*z.c)-x.d*(y.c*z.a)))).toList (.s (.agg (ks 0 4))) (fun _ _ _ H=>fPlus _ _ (lf2 s1 d2)) ?_
 refine RunD.en ?_
 have s2:=hb_add s1 d2 1800002
 refine Run.cV (fC (-(((0:Int):Rat)+(x.a*(y.c*z.d)-x.a*(y.d*z.c))+(x.c*(y.d*z.a)-x.c*(y.a*z.d))+(x.d*(y.a*z.c)-x.d*(y.c*z.a))))).toList (.s (.agg (ks 0 4))) (fun _ _ _ H=>fNeg (((0:Int):Rat)+(x.a*(y.c*z.d)-x.a*(y.d*z.c))+(x.c*(y.d*z.a)-x.c*(y.a*z.d))+(x.d*(y.a*z.c)-x.d*(y.c*z.a)))) ?_
 exact Run.rV rfl
theorem r14Mn2 (x y z:R4) (p0:x.le 100000) (p1:y.le 100000) (p2:z.le 100000):Calls Tryz.prog 196 #[.agg ⟨x.L++y.L++z.L⟩,.int .i64 2] W (RetV (fV (mnr x y z 2)) W):=by
 obtain ⟨hx1,hx2,hx3,hx4⟩:=p0
 obtain ⟨hy1,hy2,hy3,hy4⟩:=p1
 obtain ⟨hz1,hz2,hz3,hz4⟩:=p2
 refine Run.goP (S:=Z0) ((Pack.nil.k (.agg ⟨x.L++y.L++z.L⟩) (x.L++y.L++z.L) (.s (.agg (ks 0 48)))).k (.int .i64 2) [] (.s (.o (.c (.int .i64 2))))) Tryz.func196 rfl ?_
 refine Run.cV (fC ((0:Int):Rat)).toList (.s (.agg (ks 0 4))) (fun _ _ _ H=>fInt 0 (by decide) (by decide)) ?_
 have g00:=hb_mul hy2 hz4 200000
 have e00:=hb_mul hx1 g00 300000
 refine Run.dr ?_
 refine RunD.cV (fC (y.b*z.d)).toList (.s (.agg (ks 0 4))) (fun _ _ _ H=>fTimes _ _ (lf2 hy2 hz4)) ?_
 refine RunD.cV (fC (x.a*(y.b*z.d))).toList (.s (.agg (ks 0 4))) (fun _ _ _ H=>fTimes _ _ (lf2 hx1 g00)) ?_
 refine RunD.en ?_
 have g01:=hb_mul hy4 hz2 200000
 have e01:=hb_mul hx1 g01 300000
 refine Run.dr ?_
 refine RunD.cV (fC (y.d*z.b)).toList (.s (.agg (ks 0 4))) (fun _ _ _ H=>fTimes _ _ (lf2 hy4 hz2)) ?_
 refine RunD.cV (fC (x.a*(y.d*z.b))).toList (.s (.agg (ks 0 4))) (fun _ _ _ H=>fTimes _ _ (lf2 hx1 g01)) ?_
 refine RunD.en ?_
 have d0:=hb_sub e00 e01 600000
 refine Run.dr ?_
 refine RunD.cV (fC (x.a*(y.b*z.d)-x.a*(y.d*z.b))).toList (.s (.agg (ks 0 4))) (fun _ _ _ H=>fMinus _ _ (lf2 e00 e01)) ?_
 refine RunD.cV (fC (((0:Int):Rat)+(x.a*(y.b*z.d)-x.a*(y.d*z.b)))).toList (.s (.agg (ks 0 4))) (fun _ _ _ H=>fPlus _ _ (lf2 zer_htI d0)) ?_
 refine RunD.en ?_
 have s0:=hb_add zer_htI d0 600002
 have g10:=hb_mul hy4 hz1 200000
 have e10:=hb_mul hx2 g10 300000
 refine Run.dr ?_
 refine RunD.cV (fC (y.d*z.a)).toList (.s (.agg (ks 0 4))) (fun _ _ _ H=>fTimes _ _ (lf2 hy4 hz1)) ?_
 refine RunD.cV (fC (x.b*(y.d*z.a))).toList (.s (.agg (ks 0 4))) (fun _ _ _ H=>fTimes _ _ (lf2 hx2 g10)) ?_
 refine RunD.en ?_
 have g11:=hb_mul hy1 hz4 200000
 have e11:=hb_mul hx2 g11 300000
 refine Run.dr ?_
 refine RunD.cV (fC (y.a*z.d)).toList (.s (.agg (ks 0 4))) (fun _ _ _ H=>fTimes _ _ (lf2 hy1 hz4)) ?_
 refine RunD.cV (fC (x.b*(y.a*z.d))).toList (.s (.agg (ks 0 4))) (fun _ _ _ H=>fTimes _ _ (lf2 hx2 g11)) ?_
 refine RunD.en ?_
 have d1:=hb_sub e10 e11 600000
 refine Run.dr ?_
 refine RunD.cV (fC (x.b*(y.d*z.a)-x.b*(y.a*z.d))).toList (.s (.agg (ks 0 4))) (fun _ _ _ H=>fMinus _ _ (lf2 e10 e11)) ?_
 refine RunD.cV (fC (((0:Int):Rat)+(x.a*(y.b*z.d)-x.a*(y.d*z.b))+(x.b*(y.d*z.a)-x.b*(y.a*z.d)))).toList (.s (.agg (ks 0 4))) (fun _ _ _ H=>fPlus _ _ (lf2 s0 d1)) ?_
 refine RunD.en ?_
 have s1:=hb_add s0 d1 1200002
 have g20:=hb_mul hy1 hz2 200000
 have e20:=hb_mul hx4 g20 300000
 refine Run.dr ?_
 refine RunD.cV (fC (y.a*z.b)).toList (.s (.agg (ks 0 4))) (fun _ _ _ H=>fTimes _ _ (lf2 hy1 hz2)) ?_
 refine RunD.cV (fC (x.d*(y.a*z.b))).toList (.s (.agg (ks 0 4))) (fun _ _ _ H=>fTimes _ _ (lf2 hx4 g20)) ?_
 refine RunD.en ?_
 have g21:=hb_mul hy2 hz1 200000
 have e21:=hb_mul hx4 g21 300000
 refine Run.dr ?_
 refine RunD.cV (fC (y.b*z.a)).toList (.s (.agg (ks 0 4))) (fun _ _ _ H=>fTimes _ _ (lf2 hy2 hz1)) ?_
 refine RunD.cV (fC (x.d*(y.b*z.a))).toList (.s (.agg (ks 0 4))) (fun _ _ _ H=>fTimes _ _ (lf2 hx4 g21)) ?_
 refine RunD.en ?_
 have d2:=hb_sub e20 e21 600000
 refine Run.dr ?_
 refine RunD.cV (fC (x.d*(y.a*z.b)-x.d*(y.b*z.a))).toList (.s (.agg (ks 0 4))) (fun _ _ _ H=>fMinus _ _ (lf2 e20 e21)) ?_
 refine RunD.cV (fC (((0:Int):Rat)+(x.a*(y.b*z.d)-x.a*(y.d*z.b))+(x.b*(y.d*z.a)-x.b*(y.a*z.d))+(x.d*(y.a*z.b)-x.d*(y.b*z.a)))).toList (.s (.agg (ks 0 4))) (fun _ _ _ H=>fPlus _ _ (lf2 s1 d2)) ?_
 refine RunD.en ?_
 have s2:=hb_add s1 d2 1800002
 exact Run.rV rfl
theorem r14Mn3 (x y z:R4) (p0:x.le 100000) (p1:y.le 100000) (p2:z.le 100000):Calls Tryz.prog 196 #[.agg ⟨x.L++y.L++z.L⟩,.int .i64 3] W (RetV (fV (mnr x y z 3)) W):=by
 obtain ⟨hx1,hx2,hx3,hx4⟩:=p0
 obtain ⟨hy1,hy2,hy3,hy4⟩:=p1
 obtain ⟨hz1,hz2,hz3,hz4⟩:=p2
 refine Run.goP (S:=Z0) ((Pack.nil.k (.agg ⟨x.L++y.L++z.L⟩) (x.L++y.L++z.L) (.s (.agg (ks 0 48)))).k (.int .i64 3) [] (.s (.o (.c (.int .i64 3))))) Tryz.func196 rfl ?_
 refine Run.cV (fC ((0:Int):Rat)).toList (.s (.agg (ks 0 4))) (fun _ _ _ H=>fInt 0 (by decide) (by decide)) ?_
 have g00:=hb_mul hy2 hz3 200000
 have e00:=hb_mul hx1 g00 300000
 refine Run.dr ?_
 refine RunD.cV (fC (y.b*z.c)).toList (.s (.agg (ks 0 4))) (fun _ _ _ H=>fTimes _ _ (lf2 hy2 hz3)) ?_
 refine RunD.cV (fC (x.a*(y.b*z.c))).toList (.s (.agg (ks 0 4))) (fun _ _ _ H=>fTimes _ _ (lf2 hx1 g00)) ?_
 refine RunD.en ?_
 have g01:=hb_mul hy3 hz2 200000
 have e01:=hb_mul hx1 g01 300000
 refine Run.dr ?_
 refine RunD.cV (fC (y.c*z.b)).toList (.s (.agg (ks 0 4))) (fun _ _ _ H=>fTimes _ _ (lf2 hy3 hz2)) ?_
 refine RunD.cV (fC (x.a*(y.c*z.b))).toList (.s (.agg (ks 0 4))) (fun _ _ _ H=>fTimes _ _ (lf2 hx1 g01)) ?_
 refine RunD.en ?_
 have d0:=hb_sub e00 e01 600000
 refine Run.dr ?_
 refine RunD.cV (fC (x.a*(y.b*z.c)-x.a*(y.c*z.b))).toList (.s (.agg (ks 0 4))) (fun _ _ _ H=>fMinus _ _ (lf2 e00 e01)) ?_
 refine RunD.cV (fC (((0:Int):Rat)+(x.a*(y.b*z.c)-x.a*(y.c*z.b)))).toList (.s (.agg (ks 0 4))) (fun _ _ _ H=>fPlus _ _ (lf2 zer_htI d0)) ?_
 refine RunD.en ?_
 have s0:=hb_add zer_htI d0 600002
 have g10:=hb_mul hy3 hz1 200000
 have e10:=hb_mul hx2 g10 300000
 refine Run.dr ?_
 refine RunD.cV (fC (y.c*z.a)).toList (.s (.agg (ks 0 4))) (fun _ _ _ H=>fTimes _ _ (lf2 hy3 hz1)) ?_
 refine RunD.cV (fC (x.b*(y.c*z.a))).toList (.s (.agg (ks 0 4))) (fun _ _ _ H=>fTimes _ _ (lf2 hx2 g10)) ?_
 refine RunD.en ?_
 have g11:=hb_mul hy1 hz3 200000
 have e11:=hb_mul hx2 g11 300000
 refine Run.dr ?_
 refine RunD.cV (fC (y.a*z.c)).toList (.s (.agg (ks 0 4))) (fun _ _ _ H=>fTimes _ _ (lf2 hy1 hz3)) ?_
 refine RunD.cV (fC (x.b*(y.a*z.c))).toList (.s (.agg (ks 0 4))) (fun _ _ _ H=>fTimes _ _ (lf2 hx2 g11)) ?_
 refine RunD.en ?_
 have d1:=hb_sub e10 e11 600000
 refine Run.dr ?_
 refine RunD.cV (fC (x.b*(y.c*z.a)-x.b*(y.a*z.c))).toList (.s (.agg (ks 0 4))) (fun _ _ _ H=>fMinus _ _ (lf2 e10 e11)) ?_
 refine RunD.cV (fC (((0:Int):Rat)+(x.a*(y.b*z.c)-x.a*(y.c*z.b))+(x.b*(y.c*z.a)-x.b*(y.a*z.c)))).toList (.s (.agg (ks 0 4))) (fun _ _ _ H=>fPlus _ _ (lf2 s0 d1)) ?_
 refine RunD.en ?_
 have s1:=hb_add s0 d1 1200002
 have g20:=hb_mul hy1 hz2 200000
 have e20:=hb_mul hx3 g20 300000
 refine Run.dr ?_
 refine RunD.cV (fC (y.a*z.b)).toList (.s (.agg (ks 0 4))) (fun _ _ _ H=>fTimes _ _ (lf2 hy1 hz2)) ?_
 refine RunD.cV (fC (x.c*(y.a*z.b))).toList (.s (.agg (ks 0 4))) (fun _ _ _ H=>fTimes _ _ (lf2 hx3 g20)) ?_
 refine RunD.en ?_
 have g21:=hb_mul hy2 hz1 200000
 have e21:=hb_mul hx3 g21 300000
 refine Run.dr ?_
 refine RunD.cV (fC (y.b*z.a)).toList (.s (.agg (ks 0 4))) (fun _ _ _ H=>fTimes _ _ (lf2 hy2 hz1)) ?_
 refine RunD.cV (fC (x.c*(y.b*z.a))).toList (.s (.agg (ks 0 4))) (fun _ _ _ H=>fTimes _ _ (lf2 hx3 g21)) ?_
 refine RunD.en ?_
 have d2:=hb_sub e20 e21 600000
 refine Run.dr ?_
 refine RunD.cV (fC (x.c*(y.a*z.b)-x.c*(y.b*z.a))).toList (.s (.agg (ks 0 4))) (fun _ _ _ H=>fMinus _ _ (lf2 e20 e21)) ?_
 refine RunD.cV (fC (((0:Int):Rat)+(x.a*(y.b*z.c)-x.a*(y.c*z.b))+(x.b*(y.c*z.a)-x.b*(y.a*z.c))+(x.c*(y.a*z.b)-x.c*(y.b*z.a)))).toList (.s (.agg (ks 0 4))) (fun _ _ _ H=>fPlus _ _ (lf2 s1 d2)) ?_
 refine RunD.en ?_
 have s2:=hb_add s1 d2 1800002
 refine Run.cV (fC (-(((0:Int):Rat)+(x.a*(y.b*z.c)-x.a*(y.c*z.b))+(x.b*(y.c*z.a)-x.b*(y.a*z.c))+(x.c*(y.a*z.b)-x.c*(y.b*z.a))))).toList (.s (.agg (ks 0 4))) (fun _ _ _ H=>fNeg (((0:Int):Rat)+(x.a*(y.b*z.c)-x.a*(y.c*z.b))+(x.b*(y.c*z.a)-x.b*(y.a*z.c))+(x.c*(y.a*z.b)-x.c*(y.b*z.a)))) ?_
 exact Run.rV rfl
theorem dt3_ht {x1 x2 x3 y1 y2 y3 z1 z2 z3:Rat} (hx1:ht x1≤100000) (hx2:ht x2≤100000) (hx3:ht x3≤100000) (hy1:ht y1≤100000) (hy2:ht y2≤100000) (hy3:ht y3≤100000) (hz1:ht z1≤100000) (hz2:ht z2≤100000) (hz3:ht z3≤100000):ht (dt3 x1 x2 x3 y1 y2 y3 z1 z2 z3)≤2000000:=by
 have t:∀ {a b c d e:Rat},ht a≤100000→ht b≤100000→ht c≤100000→ht d≤100000→ht e≤100000→ht (a*(b*c)-a*(d*e))≤600000:=fun h1 h2 h3 h4 h5=>hb_sub (hb_mul h1 (hb_mul h2 h3 200000) 300000) (hb_mul h1 (hb_mul h4 h5 200000) 300000) 600000
 exact hb_add (hb_add (hb_add zer_htI (t hx1 hy2 hz3 hy3 hz2) 600002) (t hx2 hy3 hz1 hy1 hz3) 1200002) (t hx3 hy1 hz2 hy2 hz1) 2000000
theorem mnr_ht {x y z:R4} (p0:x.le 100000) (p1:y.le 100000) (p2:z.le 100000) (n:Nat):ht (mnr x y z n)≤2000000:=by
 obtain ⟨hx1,hx2,hx3,hx4⟩:=p0
 obtain ⟨hy1,hy2,hy3,hy4⟩:=p1
 obtain ⟨hz1,hz2,hz3,hz4⟩:=p2
 unfold mnr
 split
 ·exact dt3_ht hx2 hx3 hx4 hy2 hy3 hy4 hz2 hz3 hz4
 ·exact hb_neg (dt3_ht hx1 hx3 hx4 hy1 hy3 hy4 hz1 hz3 hz4)
 ·exact dt3_ht hx1 hx2 hx4 hy1 hy2 hy4 hz1 hz2 hz4
 ·exact hb_neg (dt3_ht hx1 hx2 hx3 hy1 hy2 hy3 hz1 hz2 hz3)
theorem r14CoN (c d:Ci) (P:Pn) (p0:ht c.a+ht c.b.re+ht c.b.im+ht c.c≤40000) (p1:ht d.a+ht d.b.re+ht d.b.im+ht d.c≤40000) (p2:PnF P) (p3:(comK c d P).pos=false):Calls Tryz.prog 65 #[ciV c,ciV d,rpnV (pnR P)] W (RetV (.tuple #[rciV rzCi,.bool false]) W):=by
 have q0:=ask_le p0
 have q1:=ask_le p1
 have q2:=thr_le p2
 have m:=mnr_ht q0 q1 q2
 have m0:=m 0
 have m1:=m 1
 have m2:=m 2
 have m3:=m 3
 refine Run.goP (S:=Z0) (((Pack.nil.k (ciV c) (ciC c).toList (.s (.agg (ks 0 16)))).k (ciV d) (ciC d).toList (.s (.agg (ks 0 16)))).k (rpnV (pnR P)) (rpnC (pnR P)).toList (.s (.agg (ks 0 9)))) Tryz.func65 rfl ?_
 refine Run.dr ?_
 refine RunD.cV (askR c).L (.s (.agg (ks 0 16))) (fun _ _ _ H=>r14Ask c p0) ?_
 refine RunD.cV (askR d).L (.s (.agg (ks 0 16))) (fun _ _ _ H=>r14Ask d p1) ?_
 refine RunD.cV (thrR P).L (.s (.agg (ks 0 16))) (fun _ _ _ H=>r14Thr P p2) ?_
 refine RunD.en ?_
 refine Run.dr ?_
 refine RunD.cV (fC (mnr (askR c) (askR d) (thrR P) 0)).toList (.s (.agg (ks 0 4))) (fun _ _ _ H=>r14Mn0 (askR c) (askR d) (thrR P) q0 q1 q2) ?_
 refine RunD.cV (fC (mnr (askR c) (askR d) (thrR P) 1)).toList (.s (.agg (ks 0 4))) (fun _ _ _ H=>r14Mn1 (askR c) (askR d) (thrR P) q0 q1 q2) ?_
 refine RunD.cV (fC (mnr (askR c) (askR d) (thrR P) 2)).toList (.s (.agg (ks 0 4))) (fun _ _ _ H=>r14Mn2 (askR c) (askR d) (thrR P) q0 q1 q2) ?_
 refine RunD.cV (fC (mnr (askR c) (askR d) (thrR P) 3)).toList (.s (.agg (ks 0 4))) (fun _ _ _ H=>r14Mn3 (askR c) (askR d) (thrR P) q0 q1 q2) ?_
 refine RunD.en ?_
 refine Run.cV (fC (comK c d P).pow).toList (.s (.agg (ks 0 4))) (fun _ _ _ H=>c11Pow (comK c d P) (by show ht (mnr _ _ _ 0)+ht (mnr _ _ _ 1)+ht (mnr _ _ _ 2)+ht (mnr _ _ _ 3)≤_;omega)) ?_
 refine Run.cV [.int .i64 (comK c d P).pow.num.sign] (.s (.o (.k 0))) (fun _ _ _ H=>fSign (comK c d P).pow) ?_
 refine Run.ik .leq (comK c d P).pow.num.sign 0 true (posT p3) ?_
 exact Run.rV rfl
theorem r14CoY (c d:Ci) (P:Pn) (p0:ht c.a+ht c.b.re+ht c.b.im+ht c.c≤40000) (p1:ht d.a+ht d.b.re+ht d.b.im+ht d.c≤40000) (p2:PnF P) (p3:(comK c d P).pos=true):Calls Tryz.prog 65 #[ciV c,ciV d,rpnV (pnR P)] W (RetV (.tuple #[ciV (comK c d P).nrm,.bool true]) W):=by
 have q0:=ask_le p0
 have q1:=ask_le p1
 have q2:=thr_le p2
 have m:=mnr_ht q0 q1 q2
 have m0:=m 0
 have m1:=m 1
 have m2:=m 2
 have m3:=m 3
 refine Run.goP (S:=Z0) (((Pack.nil.k (ciV c) (ciC c).toList (.s (.agg (ks 0 16)))).k (ciV d) (ciC d).toList (.s (.agg (ks 0 16)))).k (rpnV (pnR P)) (rpnC (pnR P)).toList (.s (.agg (ks 0 9)))) Tryz.func65 rfl ?_
 refine Run.dr ?_
 refine RunD.cV (askR c).L (.s (.agg (ks 0 16))) (fun _ _ _ H=>r14Ask c p0) ?_
 refine RunD.cV (askR d).L (.s (.agg (ks 0 16))) (fun _ _ _ H=>r14Ask d p1) ?_
 refine RunD.cV (thrR P).L (.s (.agg (ks 0 16))) (fun _ _ _ H=>r14Thr P p2) ?_
 refine RunD.en ?_
 refine Run.dr ?_
 refine RunD.cV (fC (mnr (askR c) (askR d) (thrR P) 0)).toList (.s (.agg (ks 0 4))) (fun _ _ _ H=>r14Mn0 (askR c) (askR d) (thrR P) q0 q1 q2) ?_
 refine RunD.cV (fC (mnr (askR c) (askR d) (thrR P) 1)).toList (.s (.agg (ks 0 4))) (fun _ _ _ H=>r14Mn1 (askR c) (askR d) (thrR P) q0 q1 q2) ?_
 refine RunD.cV (fC (mnr (askR c) (askR d) (thrR P) 2)).toList (.s (.agg (ks 0 4))) (fun _ _ _ H=>r14Mn2 (askR c) (askR d) (thrR P) q0 q1 q2) ?_
 refine RunD.cV (fC (mnr (askR c) (askR d) (thrR P) 3)).toList (.s (.agg (ks 0 4))) (fun _ _ _ H=>r14Mn3 (askR c) (askR d) (thrR P) q0 q1 q2) ?_
 refine RunD.en ?_
 refine Run.cV (fC (comK c d P).pow).toList (.s (.agg (ks 0 4))) (fun _ _ _ H=>c11Pow (comK c d P) (by show ht (mnr _ _ _ 0)+ht (mnr _ _ _ 1)+ht (mnr _ _ _ 2)+ht (mnr _ _ _ 3)≤_;omega)) ?_
 refine Run.cV [.int .i64 (comK c d P).pow.num.sign] (.s (.o (.k 0))) (fun _ _ _ H=>fSign (comK c d P).pow) ?_
 refine Run.ik .leq (comK c d P).pow.num.sign 0 false (posF p3) ?_
 refine Run.cV (ciC (comK c d P).nrm).toList (.s (.agg (ks 0 16))) (fun _ _ _ H=>c11Norm (comK c d P).a (comK c d P).b (comK c d P).c (by show ht (mnr _ _ _ 0)+ht (mnr _ _ _ 1)+ht (mnr _ _ _ 2)+ht (mnr _ _ _ 3)≤_;omega) (pos_flat p3)) ?_
 exact Run.rV rfl
end Go.Proofs.YtcpjdjnaipbieaaGreat
namespace Go.Proofs.YtcpjdjnaipbieaaGreat
open Go.RowKit Rgn Eng
variable {S:Nat→Prop} {W:World}
theorem m8At (m:Mb) (P:Pn) (p0:ht m.a.re+ht m.a.im+ht m.b.re+ht m.b.im+ht m.c.re+ht m.c.im+ht m.d.re+ht m.d.im≤67000000) (p1:PnF P):Calls Tryz.prog 40 #[mbV m,rpnV (pnR P)] W (RetV (rpnV (pnR (m.send P))) W):=by
 cases e:P.inf with
 | true=>rw [pnR_I p1 e];exact m8AtI m (Nat.le_trans p0 (by decide))
 | false =>
  have h:=p1.ht
  obtain ⟨i,z⟩:=P
  cases e
  exact m8AtZ z m (by dsimp only at h;omega)
theorem l14isCt (k:Ci):Calls Tryz.prog 29 #[rciV (cicut k),.int .i64 (cierr k),ciV k] W (RetV (.bool true) W):=by
 have h:=l14isC (W:=W) (cicut k) (cierr k) (rci k)
 rw [isC_ok k] at h
 exact h
theorem eSpotP (P:Pn) (p1:PnF P):Calls Tryz.prog 156 #[rpnV (pnR P)] W (Ret (VP.tup (PlaceP P) (VP.is (.bool true))) S W):=by
 cases e:P.inf with
 | true=>have:=pnR_I p1 e;subst this;exact eSpotI
 | false =>
  have h:=p1.f
  obtain ⟨i,z⟩:=P
  cases e
  exact eSpotZ z h
end Go.Proofs.YtcpjdjnaipbieaaGreat
namespace Go.Proofs.YtcpjdjnaipbieaaGreat
open Go.RowKit Rgn Eng
set_option maxHeartbeats 8000000
set_option maxRecDepth 100000
variable {S:Nat→Prop} {W:World}
def bnc (c d:Ci):Nat→Nat→Pn→RPn×Int
 | _,0,p=>(pncut p,pnerr p)
 | i,m+1,p=>if pnfits ((if i%2=0 then c else d).over.send p)=true then bnc c d (i+1) m ((if i%2=0 then c else d).over.send p) else (rzPn,pnerr ((if i%2=0 then c else d).over.send p))
theorem sendF {m:Mb} {p:Pn} (h:pnfits (m.send p)=true):PnF (m.send p):=⟨sendZ,h⟩
theorem ivBo (c d:Ci) (P:Pn) (n:Nat) (p0:ciOk (rci c)=true) (p1:ciOk (rci d)=true) (p2:PnF P) (p3:n≤30):Calls Tryz.prog 62 #[ciV c,ciV d,rpnV (pnR P),.int .i64 n] W (RetV (.tuple #[rpnV (bnc c d 0 n P).1,.int .i64 (bnc c d 0 n P).2]) W):=by
 have f1:=over_l2 (cifits_ht (ciOk_c p0).1)
 have f2:=over_l2 (cifits_ht (ciOk_c p1).1)
 refine Run.goP (S:=Z0) ((((Pack.nil.k (ciV c) (ciC c).toList (.s (.agg (ks 0 16)))).k (ciV d) (ciC d).toList (.s (.agg (ks 0 16)))).k (rpnV (pnR P)) (rpnC (pnR P)).toList (.s (.agg (ks 0 9)))).k (.int .i64 n) [.int .i64 n] (.s (.o (.k 0)))) Tryz.func62 rfl ?_
 refine Run.cB (n:=2) (T:=203) (φs:=ringF [c,d]) (fun _ _ _ H=>(ivWhY c d (H.b 4) p0 p1).mono fun _ _ h=>retRow_B h) (fun cap=>?_)
 refine Run.cR (spPlaceC true) (fun _ _ _ H=>eSpotP P p2) ?_
 refine Run.ik .lss n 0 false (dF (by omega)) ?_
 refine Run.ik .gtr n 256 false (dF (by omega)) ?_
 refine Run.lpX (ι:=Nat×Pn) [(45,.s (.o (.k 1))),(44,.s (.o (.k 2))),(10,.s (.o (.sl 1 0 2 cap))),(12,.s (.o (.p 2 0))),(8,.s (.o (.p 0 0)))]
  [⟨56,(rpnC rzPn).toList.map At.c,true,none,false⟩,⟨203,mkT::vs 0 8,true,none,false⟩,⟨229,.k 0::vs 8 2,true,none,false⟩] 3 10
  (fun x=>[.bool x.2.inf,.int .i64 x.1,.int .i64 n]) (fun x=>ringF [c,d]++[RatN x.2.z.re,RatN x.2.z.im])
  (fun r x=>x.1+r=64∧x.1≤n∧PnF x.2∧bnc c d x.1 (n-x.1) x.2=bnc c d 0 n P) ?_ (fun L=>?_)
 · intro r x h IH
   obtain ⟨i,p⟩:=x
   obtain ⟨h1,h2,h3,h4⟩:=h
   dsimp only at h1 h2 h3 h4
   rw [← h4]
   have f3:=h3.ht
   by_cases hi:i<n
   · obtain ⟨r', rfl⟩:∃ r', r=r'+1:=⟨r-1,by omega⟩
     obtain ⟨m,hm⟩:∃ m,n-i=m+1:=⟨n-i-1,by omega⟩
     refine Run.ik .lss i n true (dT (by omega)) ?_
     rcases Nat.mod_two_eq_zero_or_one i with hb|hb
     · have f4:=send_le (p:=p) f1 (Nat.le_trans f3 (by decide))
       have e:bnc c d i (n-i) p=if pnfits (c.over.send p)=true then bnc c d (i+1) m (c.over.send p) else (rzPn,pnerr (c.over.send p)):=by rw [hm];show (if _ then _ else _)=_;rw [if_pos hb]
       refine Run.dr ?_
       refine RunD.bi (op:=.and) (t:=3) (a:=.int .i64 i) (c:=.int .i64 1) [] (.s (.o (.c (.int .i64 0)))) (fun w o ρ x y t' ho hx hy=>ex_and1 hb (by omega) ho hx hy) ?_
       refine RunD.cR spMat (fun _ _ _ H=>iOver c (RingP.mk (H.f 0) (H.f 1) (H.f 2) (H.f 3)) (by have:=cifits_ht (ciOk_c p0).1;omega)) ?_
       refine RunD.cR spPlace (fun _ _ _ H=>mtSend c.over p (MatP.mk (H.f 10) (H.f 11) (H.f 12) (H.f 13) (H.f 14) (H.f 15) (H.f 16) (H.f 17)) (PlaceP.mk (H.f 8) (H.f 9)) (by omega)) ?_
       refine RunD.en ?_
       refine Run.cV ((rpnC (pncut (c.over.send p))).toList++[.int .i64 (pnerr (c.over.send p))]) (.tup [.agg (ks 0 9),.o (.k 9)]) (fun _ _ _ H=>plTold (c.over.send p) (PlaceP.mk (H.f 18) (H.f 19)) (by omega)) ?_
       cases hf:pnfits (c.over.send p) with
       | true =>
         refine Run.ik .neq (pnerr (c.over.send p)) 0 false (show some (pnerr (c.over.send p) != 0)=some false by unfold pnerr;rw [hf];rfl) ?_
         refine Run.bi (op:=.add) (t:=3) (a:=.int .i64 i) (c:=.int .i64 1) [.int .i64 ((i:Int)+1)] (.s (.o (.k 0))) (fun w o ρ x y t' ho hx hy=>ex_iadd (wrap_62 (n:=(i:Int)+1) (by omega) (by omega)) ho hx hy) ?_
         refine Run.to far ?_
         rw [e,if_pos hf]
         have R:=IH r' (i+1,c.over.send p) rfl ⟨by dsimp only;omega,hi,sendF hf,by dsimp only;rw [← h4,e,if_pos hf,show n-(i+1)=m by omega]⟩
         rw [← h4,e,if_pos hf] at R
         exact Run.as (fun k=>if k<8 then k else k+10) id R (hc:=by kernel_rfl) (hk:=by kernel_rfl)
       | false =>
         refine Run.ik .neq (pnerr (c.over.send p)) 0 true (show some (pnerr (c.over.send p) != 0)=some true by unfold pnerr;rw [hf];rfl) ?_
         rw [e,if_neg (by rw [hf];decide)]
         exact Run.rV rfl
     · have f4:=send_le (p:=p) f2 (Nat.le_trans f3 (by decide))
       have e:bnc c d i (n-i) p=if pnfits (d.over.send p)=true then bnc c d (i+1) m (d.over.send p) else (rzPn,pnerr (d.over.send p)):=by rw [hm];show (if _ then _ else _)=_;rw [if_neg (show ¬ i%2=0 by omega)]
       refine Run.dr ?_
       refine RunD.bi (op:=.and) (t:=3) (a:=.int .i64 i) (c:=.int .i64 1) [] (.s (.o (.c (.int .i64 1)))) (fun w o ρ x y t' ho hx hy=>ex_and1 hb (by omega) ho hx hy) ?_
       refine RunD.cR spMat (fun _ _ _ H=>iOver d (RingP.mk (H.f 4) (H.f 5) (H.f 6) (H.f 7)) (by have:=cifits_ht (ciOk_c p1).1;omega)) ?_
       refine RunD.cR spPlace (fun _ _ _ H=>mtSend d.over p (MatP.mk (H.f 10) (H.f 11) (H.f 12) (H.f 13) (H.f 14) (H.f 15) (H.f 16) (H.f 17)) (PlaceP.mk (H.f 8) (H.f 9)) (by omega)) ?_
       refine RunD.en ?_
       refine Run.cV ((rpnC (pncut (d.over.send p))).toList++[.int .i64 (pnerr (d.over.send p))]) (.tup [.agg (ks 0 9),.o (.k 9)]) (fun _ _ _ H=>plTold (d.over.send p) (PlaceP.mk (H.f 18) (H.f 19)) (by omega)) ?_
       cases hf:pnfits (d.over.send p) with
       | true =>
         refine Run.ik .neq (pnerr (d.over.send p)) 0 false (show some (pnerr (d.over.send p) != 0)=some false by unfold pnerr;rw [hf];rfl) ?_
         refine Run.bi (op:=.add) (t:=3) (a:=.int .i64 i) (c:=.int .i64 1) [.int .i64 ((i:Int)+1)] (.s (.o (.k 0))) (fun w o ρ x y t' ho hx hy=>ex_iadd (wrap_62 (n:=(i:Int)+1) (by omega) (by omega)) ho hx hy) ?_
         refine Run.to far ?_
         rw [e,if_pos hf]
         have R:=IH r' (i+1,d.over.send p) rfl ⟨by dsimp only;omega,hi,sendF hf,by dsimp only;rw [← h4,e,if_pos hf,show n-(i+1)=m by omega]⟩
         rw [← h4,e,if_pos hf] at R
         exact Run.as (fun k=>if k<8 then k else k+10) id R (hc:=by kernel_rfl) (hk:=by kernel_rfl)
       | false =>
         refine Run.ik .neq (pnerr (d.over.send p)) 0 true (show some (pnerr (d.over.send p) != 0)=some true by unfold pnerr;rw [hf];rfl) ?_
         rw [e,if_neg (by rw [hf];decide)]
         exact Run.rV rfl
   · have e:n-i=0:=by omega
     refine Run.ik .lss i n false (dF (by omega)) ?_
     refine Run.cV ((rpnC (pncut p)).toList++[.int .i64 (pnerr p)]) (.tup [.agg (ks 0 9),.o (.k 9)]) (fun _ _ _ H=>plTold p (PlaceP.mk (H.f 8) (H.f 9)) (by omega)) ?_
     rw [e]
     exact Run.rV rfl
 · refine Run.to far ?_
   exact Run.as id (fun b=>match b with|0=>3|1=>5|_=>6) (L 64 (0,P) ⟨rfl,Nat.zero_le _,p2,by rw [Nat.sub_zero]⟩) (hc:=by kernel_rfl) (hk:=by kernel_rfl)
theorem ratCells6 {x0 x1 x2 x3 x4 x5:Rat} {v0 v1 v2 v3 v4 v5:Value} (h0:(RatP x0).p S v0 W) (h1:(RatP x1).p S v1 W) (h2:(RatP x2).p S v2 W) (h3:(RatP x3).p S v3 W) (h4:(RatP x4).p S v4 W) (h5:(RatP x5).p S v5 W):AllF (Amb S W) W [v0,v1,v2,v3,v4,v5] [RatP x0,RatP x1,RatP x2,RatP x3,RatP x4,RatP x5] :=
 ⟨⟨VP1.rat h0,(RatP x0).amb h0⟩,⟨VP1.rat h1,(RatP x1).amb h1⟩,⟨VP1.rat h2,(RatP x2).amb h2⟩,⟨VP1.rat h3,(RatP x3).amb h3⟩,⟨VP1.rat h4,(RatP x4).amb h4⟩,⟨VP1.rat h5,(RatP x5).amb h5⟩,trivial⟩
theorem ivMn12 {b:Nat} {T:TypeId} {v0 v1 v2 v3 v4 v5:Value} (x0 x1 x2 x3 x4 x5:Rat) (B:W.heap[b]? = some (.cells #[v0,v1,v2,v3,v4,v5] T (0,0))) (h0:(RatP x0).p S v0 W) (h1:(RatP x1).p S v1 W) (h2:(RatP x2).p S v2 W) (h3:(RatP x3).p S v3 W) (h4:(RatP x4).p S v4 W) (h5:(RatP x5).p S v5 W) (p0:ht x0≤10000000∧ht x1≤10000000∧ht x2≤10000000∧ht x3≤10000000∧ht x4≤10000000∧ht x5≤10000000):Calls Tryz.prog 191 #[.int .i64 1,.int .i64 2,.pointer (some ⟨b,0,none⟩)] W (Ret (RatP (x1*x5-x2*x4)) S W):=by
 have k1:=ht_mul x1 x5
 have k2:=ht_mul x2 x4
 refine Run.goP (S:=S) (((Pack.nil.k (.int .i64 1) [] (.s (.o (.c (.int .i64 1))))).k (.int .i64 2) [] (.s (.o (.c (.int .i64 2))))).bv B none 6 (ratCells6 h0 h1 h2 h3 h4 h5)) Tryz.func191 rfl ?_
 refine Run.dr ?_
 refine RunD.cO 1 softRat (fun _ _ _ H=>qMul x1 x5 (RatP.blk (H.oz 1)) (anyV (H.f 1)) (anyV (H.f 5)) (by omega)) ?_
 refine RunD.en ?_
 refine Run.dr ?_
 refine RunD.cO 2 softRat (fun _ _ _ H=>qMul x2 x4 (RatP.blk (H.oz 2)) (anyV (H.f 2)) (anyV (H.f 4)) (by omega)) ?_
 refine RunD.cO 1 softRat (fun _ _ _ H=>qSub (x1*x5) (x2*x4) (RatP.blk (q:=x1*x5) (H.o 1)) (anyV (H.o 1)) (anyV (H.o 2)) (by omega)) ?_
 refine RunD.en ?_
 exact Run.rR (fun _ _ _ H=>H.s 1)
theorem ivMn20 {b:Nat} {T:TypeId} {v0 v1 v2 v3 v4 v5:Value} (x0 x1 x2 x3 x4 x5:Rat) (B:W.heap[b]? = some (.cells #[v0,v1,v2,v3,v4,v5] T (0,0))) (h0:(RatP x0).p S v0 W) (h1:(RatP x1).p S v1 W) (h2:(RatP x2).p S v2 W) (h3:(RatP x3).p S v3 W) (h4:(RatP x4).p S v4 W) (h5:(RatP x5).p S v5 W) (p0:ht x0≤10000000∧ht x1≤10000000∧ht x2≤10000000∧ht x3≤10000000∧ht x4≤10000000∧ht x5≤10000000):Calls Tryz.prog 191 #[.int .i64 2,.int .i64 0,.pointer (some ⟨b,0,none⟩)] W (Ret (RatP (x2*x3-x0*x5)) S W):=by
 have k1:=ht_mul x2 x3
 have k2:=ht_mul x0 x5
 refine Run.goP (S:=S) (((Pack.nil.k (.int .i64 2) [] (.s (.o (.c (.int .i64 2))))).k (.int .i64 0) [] (.s (.o (.c (.int .i64 0))))).bv B none 6 (ratCells6 h0 h1 h2 h3 h4 h5)) Tryz.func191 rfl ?_
 refine Run.dr ?_
 refine RunD.cO 1 softRat (fun _ _ _ H=>qMul x2 x3 (RatP.blk (H.oz 1)) (anyV (H.f 2)) (anyV (H.f 3)) (by omega)) ?_
 refine RunD.en ?_
 refine Run.dr ?_
 refine RunD.cO 2 softRat (fun _ _ _ H=>qMul x0 x5 (RatP.blk (H.oz 2)) (anyV (H.f 0)) (anyV (H.f 5)) (by omega)) ?_
 refine RunD.cO 1 softRat (fun _ _ _ H=>qSub (x2*x3) (x0*x5) (RatP.blk (q:=x2*x3) (H.o 1)) (anyV (H.o 1)) (anyV (H.o 2)) (by omega)) ?_
 refine RunD.en ?_
 exact Run.rR (fun _ _ _ H=>H.s 1)
theorem ivMn1 {b:Nat} {T:TypeId} {v0 v1 v2 v3 v4 v5:Value} (x0 x1 x2 x3 x4 x5:Rat) (B:W.heap[b]? = some (.cells #[v0,v1,v2,v3,v4,v5] T (0,0))) (h0:(RatP x0).p S v0 W) (h1:(RatP x1).p S v1 W) (h2:(RatP x2).p S v2 W) (h3:(RatP x3).p S v3 W) (h4:(RatP x4).p S v4 W) (h5:(RatP x5).p S v5 W) (p0:ht x0≤10000000∧ht x1≤10000000∧ht x2≤10000000∧ht x3≤10000000∧ht x4≤10000000∧ht x5≤10000000):Calls Tryz.prog 191 #[.int .i64 0,.int .i64 1,.pointer (some ⟨b,0,none⟩)] W (Ret (RatP (x0*x4-x1*x3)) S W):=by
 have k1:=ht_mul x0 x4
 have k2:=ht_mul x1 x3
 refine Run.goP (S:=S) (((Pack.nil.k (.int .i64 0) [] (.s (.o (.c (.int .i64 0))))).k (.int .i64 1) [] (.s (.o (.c (.int .i64 1))))).bv B none 6 (ratCells6 h0 h1 h2 h3 h4 h5)) Tryz.func191 rfl ?_
 refine Run.dr ?_
 refine RunD.cO 1 softRat (fun _ _ _ H=>qMul x0 x4 (RatP.blk (H.oz 1)) (anyV (H.f 0)) (anyV (H.f 4)) (by omega)) ?_
 refine RunD.en ?_
 refine Run.dr ?_
 refine RunD.cO 2 softRat (fun _ _ _ H=>qMul x1 x3 (RatP.blk (H.oz 2)) (anyV (H.f 1)) (anyV (H.f 3)) (by omega)) ?_
 refine RunD.cO 1 softRat (fun _ _ _ H=>qSub (x0*x4) (x1*x3) (RatP.blk (q:=x0*x4) (H.o 1)) (anyV (H.o 1)) (anyV (H.o 2)) (by omega)) ?_
 refine RunD.en ?_
 exact Run.rR (fun _ _ _ H=>H.s 1)
theorem r8PF (p:Pn):Calls Tryz.prog 97 #[rpnV (pnR p)] W (RetV (.bool (pnfits p)) W):=by
 cases h:p.inf with
 | true =>
   rw [show pnR p=⟨true,rz⟩ by unfold pnR;rw [if_pos h],show pnfits p=(true||gfits rz) by unfold pnfits;rw [h];rfl]
   exact m8PFits true rz
 | false =>
   rw [show pnR p=⟨false,rg p.z⟩ by unfold pnR;rw [if_neg (by rw [h];decide)],show pnfits p=(false||gfits (rg p.z)) by unfold pnfits;rw [h]]
   exact m8PFits false (rg p.z)
theorem ex_rem2 {P:Program} {i b:Nat} (hb:i%2=b) (hi:i<2^62) {ρ:Operand→Value} {o:Oper} {w:World} {x y:Operand} {t t' : TypeId} (ho:o.op=.binOp .rem t x y t') (hx:ρ x=.int .i64 i) (hy:ρ y=.int .i64 2):(execOp ρ o).run P w=.ok (.value (.int .i64 b)) w:=by
 have e:(i:Int).tmod 2=(b:Int):=by
  rw [Int.tmod_eq_emod_of_nonneg (by omega)];omega
 have:=ex_irem (P:=P) (k:=.i64) (n:=i) (u:=2) (by decide) (wrap_62 (n:=(i:Int).tmod 2) (by rw [e];omega) (by rw [e];omega)) ho hx hy (w:=w)
 rw [e] at this;exact this
theorem r14Bo (c d:Ci) (P:Pn) (n:Nat) (p0:ciOk (rci c)=true) (p1:ciOk (rci d)=true) (p2:PnF P) (p3:n≤30):Calls Tryz.prog 64 #[ciV c,ciV d,rpnV (pnR P),.int .i64 n] W (RetV (.tuple #[rpnV (bnc c d 0 n P).1,.int .i64 (bnc c d 0 n P).2]) W):=by
 have f1:=cifits_ht (ciOk_c p0).1
 have f2:=cifits_ht (ciOk_c p1).1
 have g1:=over_nl f1
 have g2:=over_nl f2
 refine Run.goP (S:=Z0) ((((Pack.nil.k (ciV c) (ciC c).toList (.s (.agg (ks 0 16)))).k (ciV d) (ciC d).toList (.s (.agg (ks 0 16)))).k (rpnV (pnR P)) (rpnC (pnR P)).toList (.s (.agg (ks 0 9)))).k (.int .i64 n) [.int .i64 n] (.s (.o (.k 0)))) Tryz.func64 rfl ?_
 refine Run.lpX (ι:=Nat×Pn) [(10,.s (.o (.k 41))),(11,.s (.o (.k 41))),(3,.s (.o (.k 42))),(12,.s (.o (.k 42))),(4,.s (.o (.p 0 0))),(5,.s (.o (.p 1 0))),(6,.s (.o (.p 2 0))),(8,.s (.o (.p 3 0)))]
  [⟨47,ks 0 16,true,none,false⟩,⟨47,ks 16 16,true,none,false⟩,⟨56,ks 32 9,true,none,false⟩,⟨56,(rpnC rzPn).toList.map At.c,true,none,false⟩] 43 0
  (fun x=>(ciC c).toList++(ciC d).toList++(rpnC (pnR x.2)).toList++[.int .i64 x.1,.int .i64 n]) (fun x=>[])
  (fun r x=>x.1+r=64∧x.1≤n∧PnF x.2∧bnc c d x.1 (n-x.1) x.2=bnc c d 0 n P) ?_ (fun L=>?_)
 · intro r x h IH
   obtain ⟨i,p⟩:=x
   obtain ⟨h1,h2,h3,h4⟩:=h
   dsimp only at h1 h2 h3 h4
   rw [← h4]
   have f3:=h3.ht
   by_cases hi:i<n
   · obtain ⟨r', rfl⟩:∃ r', r=r'+1:=⟨r-1,by omega⟩
     obtain ⟨m,hm⟩:∃ m,n-i=m+1:=⟨n-i-1,by omega⟩
     refine Run.ik .lss i n true (dT (by omega)) ?_
     rcases Nat.mod_two_eq_zero_or_one i with hb|hb
     · have f4:=send_le (p:=p) (over_l2 f1) (Nat.le_trans f3 (by decide))
       have es:=send_nrm (over_piv (ciOk_c p0).2.1) p
       have e:bnc c d i (n-i) p=if pnfits (c.over.nrm.send p)=true then bnc c d (i+1) m (c.over.nrm.send p) else (rzPn,pnerr (c.over.nrm.send p)):=by rw [hm,es];show (if _ then _ else _)=_;rw [if_pos hb]
       rw [← es] at f4
       refine Run.bi (op:=.rem) (t:=3) (a:=.int .i64 i) (c:=.int .i64 2) [] (.s (.o (.c (.int .i64 0)))) (fun w o ρ x y t' ho hx hy=>ex_rem2 hb (by omega) ho hx hy) ?_
       refine Run.dr ?_
       refine RunD.cV (mbC c.over.nrm).toList (.s (.agg (ks 0 33))) (fun _ _ _ H=>r14Over c (by omega) (over_piv (ciOk_c p0).2.1)) ?_
       refine RunD.cV (rpnC (pnR (c.over.nrm.send p))).toList (.s (.agg (ks 0 9))) (fun _ _ _ H=>m8At c.over.nrm p (by omega) h3) ?_
       refine RunD.en ?_
       refine Run.cV [.bool (pnfits (c.over.nrm.send p))] kb (fun _ _ _ H=>r8PF (c.over.nrm.send p)) ?_
       cases hf:pnfits (c.over.nrm.send p) with
       | true =>
         refine Run.kn (b:=true) (c:=true) rfl ?_
         refine Run.bi (op:=.add) (t:=3) (a:=.int .i64 i) (c:=.int .i64 1) [.int .i64 ((i:Int)+1)] (.s (.o (.k 0))) (fun w o ρ x y t' ho hx hy=>ex_iadd (wrap_62 (n:=(i:Int)+1) (by omega) (by omega)) ho hx hy) ?_
         refine Run.to far ?_
         rw [e,if_pos hf]
         have R:=IH r' (i+1,c.over.nrm.send p) rfl ⟨by dsimp only;omega,hi,sendF hf,by dsimp only;rw [← h4,e,if_pos hf,show n-(i+1)=m by omega]⟩
         rw [← h4,e,if_pos hf] at R
         exact Run.as id id R (hc:=by kernel_rfl) (hk:=by kernel_rfl)
       | false =>
         refine Run.kn (b:=false) (c:=false) rfl ?_
         rw [e,if_neg (by rw [hf];decide),show pnerr (c.over.nrm.send p)=4 by unfold pnerr;rw [hf];rfl]
         exact Run.rV rfl
     · have f4:=send_le (p:=p) (over_l2 f2) (Nat.le_trans f3 (by decide))
       have es:=send_nrm (over_piv (ciOk_c p1).2.1) p
       have e:bnc c d i (n-i) p=if pnfits (d.over.nrm.send p)=true then bnc c d (i+1) m (d.over.nrm.send p) else (rzPn,pnerr (d.over.nrm.send p)):=by rw [hm,es];show (if _ then _ else _)=_;rw [if_neg (show ¬ i%2=0 by omega)]
       rw [← es] at f4
       refine Run.bi (op:=.rem) (t:=3) (a:=.int .i64 i) (c:=.int .i64 2) [] (.s (.o (.c (.int .i64 1)))) (fun w o ρ x y t' ho hx hy=>ex_rem2 hb (by omega) ho hx hy) ?_
       refine Run.dr ?_
       refine RunD.cV (mbC d.over.nrm).toList (.s (.agg (ks 0 33))) (fun _ _ _ H=>r14Over d (by omega) (over_piv (ciOk_c p1).2.1)) ?_
       refine RunD.cV (rpnC (pnR (d.over.nrm.send p))).toList (.s (.agg (ks 0 9))) (fun _ _ _ H=>m8At d.over.nrm p (by omega) h3) ?_
       refine RunD.en ?_
       refine Run.cV [.bool (pnfits (d.over.nrm.send p))] kb (fun _ _ _ H=>r8PF (d.over.nrm.send p)) ?_
       cases hf:pnfits (d.over.nrm.send p) with
       | true =>
         refine Run.kn (b:=true) (c:=true) rfl ?_
         refine Run.bi (op:=.add) (t:=3) (a:=.int .i64 i) (c:=.int .i64 1) [.int .i64 ((i:Int)+1)] (.s (.o (.k 0))) (fun w o ρ x y t' ho hx hy=>ex_iadd (wrap_62 (n:=(i:Int)+1) (by omega) (by omega)) ho hx hy) ?_
         refine Run.to far ?_
         rw [e,if_pos hf]
         have R:=IH r' (i+1,d.over.nrm.send p) rfl ⟨by dsimp only;omega,hi,sendF hf,by dsimp only;rw [← h4,e,if_pos hf,show n-(i+1)=m by omega]⟩
         rw [← h4,e,if_pos hf] at R
         exact Run.as id id R (hc:=by kernel_rfl) (hk:=by kernel_rfl)
       | false =>
         refine Run.kn (b:=false) (c:=false) rfl ?_
         rw [e,if_neg (by rw [hf];decide),show pnerr (d.over.nrm.send p)=4 by unfold pnerr;rw [hf];rfl]
         exact Run.rV rfl
   · have e:n-i=0:=by omega
     refine Run.ik .lss i n false (dF (by omega)) ?_
     rw [e,show bnc c d i 0 p=(pnR p,0) by show (pncut p,pnerr p)=_;unfold pncut pnerr;rw [if_pos h3.f,if_pos h3.f]]
     exact Run.rV rfl
 · refine Run.to far ?_
   exact Run.as id (fun b=>b) (L 64 (0,P) ⟨rfl,Nat.zero_le _,p2,by rw [Nat.sub_zero]⟩) (hc:=by kernel_rfl) (hk:=by kernel_rfl)
theorem mtAtL {v0 v1 w2_0 w2_1 w2_2 w2_3:Value} {b2:Nat} (v:Cx) (w:Cx) (c:Ci) (t0:(NumP v).p S v0 W) (t1:(NumP w).p S v1 W) (B2:W.heap[b2]? = some (.cells #[w2_0,w2_1,w2_2,w2_3] 203 (0,0))) (t2:(RingP c).p S (.agg #[w2_0,w2_1,w2_2,w2_3]) W) (p0:ht v.re+ht v.im+ht w.re+ht w.im≤200000) (p1:ht c.a≤11000000∧HB c.b 11000000∧ht c.c≤11000000):Calls Tryz.prog 243 #[v0,v1,.pointer (some ⟨b2,0,none⟩)] W (Ret (RatP (c.at v w)) S W):=by
 obtain ⟨e1,e2,e3⟩:=p1
 obtain ⟨f1,f2⟩:HB v 200000∧HB w 200000:=(by unfold HB;omega)
 have k0:=HB.mul e2 f1 22400000
 have k1:=HB.conj f2
 have k2:=HB.mul k0 k1 45200000
 have k3:=HB.norm f1 800000
 have k4:=hb_mul e1 k3 11800000
 have k5:=hb_add k2.1 k2.1 90400000
 have k6:=HB.norm f2 800000
 have k7:=hb_mul e3 k6 11800000
 have k8:=(hb_add (hb_add (hb_add (Nat.le_of_eq ht_zero) k4 11800002) k5 102200002) k7 114000002)
 refine Run.goP (S:=S) (((Pack.nil.s spNum t0).s spNum t1).bv B2 none 4 (ringCells t2)) Tryz.func243 rfl ?_
 refine Run.dr ?_
 refine RunD.cR spNum (fun _ _ _ H=>eNMul c.b v (NumP.mk (H.f 5) (H.f 6)) (NumP.mk (H.f 0) (H.f 1)) (Nat.le_trans (Nat.add_le_add (Nat.add_le_add (Nat.add_le_add e2.1 e2.2) f1.1) f1.2) (by decide))) ?_
 refine RunD.cR spNum (fun _ _ _ H=>eConj w (NumP.mk (H.f 2) (H.f 3)) (Nat.le_trans (Nat.add_le_add f2.1 f2.2) (by decide))) ?_
 refine RunD.cR spNum (fun _ _ _ H=>eNMul (c.b.mul v) w.conj (NumP.mk (H.f 8) (H.f 9)) (NumP.mk (H.f 10) (H.f 11)) (Nat.le_trans (Nat.add_le_add (Nat.add_le_add (Nat.add_le_add k0.1 k0.2) k1.1) k1.2) (by decide))) ?_
 refine RunD.cR sp2Rat (fun _ _ _ H=>eParts ((c.b.mul v).mul w.conj) (NumP.mk (H.f 12) (H.f 13))) ?_
 refine RunD.en ?_
 refine Run.dr ?_
 refine RunD.cR spRat (fun _ _ _ H=>eNorm v (NumP.mk (H.f 0) (H.f 1)) (Nat.le_trans (Nat.add_le_add f1.1 f1.2) (by decide))) ?_
 refine RunD.cR spRat (fun _ _ _ H=>eMul c.a v.norm (RatP.n (H.f 4)) (RatP.n (H.f 16)) (Nat.le_trans (Nat.add_le_add e1 k3) (by decide))) ?_
 refine RunD.cR spRat (fun _ _ _ H=>eTwice (((c.b.mul v).mul w.conj).re) (H.f 14) (Nat.le_trans k2.1 (by decide))) ?_
 refine RunD.cR spRat (fun _ _ _ H=>eNorm w (NumP.mk (H.f 2) (H.f 3)) (Nat.le_trans (Nat.add_le_add f2.1 f2.2) (by decide))) ?_
 refine RunD.cR spRat (fun _ _ _ H=>eMul c.c w.norm (RatP.n (H.f 7)) (RatP.n (H.f 19)) (Nat.le_trans (Nat.add_le_add e3 k6) (by decide))) ?_
 refine RunD.cR spRat (fun _ _ _ H=>retZ (eSum3 (c.a*v.norm) ((((c.b.mul v).mul w.conj).re)+(((c.b.mul v).mul w.conj).re)) (c.c*w.norm) (RatsP.mk3 (H.b 3) (H.f 17) (H.f 18) (H.f 20)) (Nat.le_trans (Nat.add_le_add (Nat.add_le_add k4 k5) k7) (by decide)))) ?_
 refine RunD.en ?_
 exact Run.rR (fun _ _ _ H=>VPe (φ:=RatP) (at_eq c v w) (H.f 21))
theorem mtImgL {v0 v1:Value} (m:Mb) (c:Ci) (t0:(MatP m).p S v0 W) (t1:(RingP c).p S v1 W) (p0:ht m.a.re+ht m.a.im+ht m.b.re+ht m.b.im+ht m.c.re+ht m.c.im+ht m.d.re+ht m.d.im≤268435456) (p1:m.ub 30000) (p2:ht c.a≤11000000∧HB c.b 11000000∧ht c.c≤11000000) (p3:m.det.zero=false) (p4:c.pos=true):Calls Tryz.prog 159 #[v0,v1] W (Ret (RingP ((m.img c).nrm)) S W):=by
 obtain ⟨e1,e2,e3⟩:=id p2
 have k0:=HB.conj p1.2.1
 have k1:=HB.mul p1.1 k0 120000
 have k2:=HB.scale k1 e1 11120000
 have k3:=HB.mul e2 p1.1 22060000
 have k4:=HB.conj p1.2.2.2
 have k5:=HB.mul k3 k4 44180000
 have k6:=HB.add k2 k5 55300000
 have k7:=HB.mul e2 p1.2.1 22060000
 have k8:=HB.conj k7
 have k9:=HB.mul k8 p1.2.2.1 44180000
 have k10:=HB.add k6 k9 99480000
 have k11:=HB.mul p1.2.2.1 k4 120000
 have k12:=HB.scale k11 e3 11120000
 have k13:=HB.add k10 k12 110600000
 have k14:=HB.conj k13
 have k15:=at_hb e1 e2 e3 p1.1 p1.2.2.1 110600000
 have k16:=at_hb e1 e2 e3 p1.2.1 p1.2.2.2 110600000
 refine Run.goP (S:=S) ((Pack.nil.s spMat t0).s spRing t1) Tryz.func159 rfl ?_
 refine Run.cR spMat (fun _ _ _ H=>mtUndo m (MatP.mk (H.f 0) (H.f 1) (H.f 2) (H.f 3) (H.f 4) (H.f 5) (H.f 6) (H.f 7)) p0 p3) ?_
 refine Run.dr ?_
 refine RunD.en ?_
 refine Run.dr ?_
 refine RunD.cR spNum (fun _ _ _ H=>eConj m.undo.b (NumP.mk (H.f 14) (H.f 15)) (Nat.le_trans (Nat.add_le_add p1.2.1.1 p1.2.1.2) (by decide))) ?_
 refine RunD.cR spNum (fun _ _ _ H=>eNMul m.undo.a m.undo.b.conj (NumP.mk (H.f 12) (H.f 13)) (NumP.mk (H.f 20) (H.f 21)) (Nat.le_trans (Nat.add_le_add (Nat.add_le_add (Nat.add_le_add p1.1.1 p1.1.2) k0.1) k0.2) (by decide))) ?_
 refine RunD.cR spNum (fun _ _ _ H=>eScale (m.undo.a.mul m.undo.b.conj) c.a (NumP.mk (H.f 22) (H.f 23)) (RatP.n (H.f 8)) (Nat.le_trans (Nat.add_le_add (Nat.add_le_add k1.1 k1.2) e1) (by decide))) ?_
 refine RunD.cR spNum (fun _ _ _ H=>eNMul c.b m.undo.a (NumP.mk (H.f 9) (H.f 10)) (NumP.mk (H.f 12) (H.f 13)) (Nat.le_trans (Nat.add_le_add (Nat.add_le_add (Nat.add_le_add e2.1 e2.2) p1.1.1) p1.1.2) (by decide))) ?_
 refine RunD.cR spNum (fun _ _ _ H=>eConj m.undo.d (NumP.mk (H.f 18) (H.f 19)) (Nat.le_trans (Nat.add_le_add p1.2.2.2.1 p1.2.2.2.2) (by decide))) ?_
 refine RunD.cR spNum (fun _ _ _ H=>eNMul (c.b.mul m.undo.a) m.undo.d.conj (NumP.mk (H.f 26) (H.f 27)) (NumP.mk (H.f 28) (H.f 29)) (Nat.le_trans (Nat.add_le_add (Nat.add_le_add (Nat.add_le_add k3.1 k3.2) k4.1) k4.2) (by decide))) ?_
 refine RunD.cR spNum (fun _ _ _ H=>eAdd ((m.undo.a.mul m.undo.b.conj).scale c.a) ((c.b.mul m.undo.a).mul m.undo.d.conj) (NumP.mk (H.f 24) (H.f 25)) (NumP.mk (H.f 30) (H.f 31)) (Nat.le_trans (Nat.add_le_add (Nat.add_le_add (Nat.add_le_add k2.1 k2.2) k5.1) k5.2) (by decide))) ?_
 refine RunD.cR spNum (fun _ _ _ H=>eNMul c.b m.undo.b (NumP.mk (H.f 9) (H.f 10)) (NumP.mk (H.f 14) (H.f 15)) (Nat.le_trans (Nat.add_le_add (Nat.add_le_add (Nat.add_le_add e2.1 e2.2) p1.2.1.1) p1.2.1.2) (by decide))) ?_
 refine RunD.cR spNum (fun _ _ _ H=>eConj (c.b.mul m.undo.b) (NumP.mk (H.f 34) (H.f 35)) (Nat.le_trans (Nat.add_le_add k7.1 k7.2) (by decide))) ?_
 refine RunD.cR spNum (fun _ _ _ H=>eNMul ((c.b.mul m.undo.b).conj) m.undo.c (NumP.mk (H.f 36) (H.f 37)) (NumP.mk (H.f 16) (H.f 17)) (Nat.le_trans (Nat.add_le_add (Nat.add_le_add (Nat.add_le_add k8.1 k8.2) p1.2.2.1.1) p1.2.2.1.2) (by decide))) ?_
 refine RunD.cR spNum (fun _ _ _ H=>eAdd (((m.undo.a.mul m.undo.b.conj).scale c.a).add ((c.b.mul m.undo.a).mul m.undo.d.conj)) (((c.b.mul m.undo.b).conj).mul m.undo.c) (NumP.mk (H.f 32) (H.f 33)) (NumP.mk (H.f 38) (H.f 39)) (Nat.le_trans (Nat.add_le_add (Nat.add_le_add (Nat.add_le_add k6.1 k6.2) k9.1) k9.2) (by decide))) ?_
 refine RunD.cR spNum (fun _ _ _ H=>eConj m.undo.d (NumP.mk (H.f 18) (H.f 19)) (Nat.le_trans (Nat.add_le_add p1.2.2.2.1 p1.2.2.2.2) (by decide))) ?_
 refine RunD.cR spNum (fun _ _ _ H=>eNMul m.undo.c m.undo.d.conj (NumP.mk (H.f 16) (H.f 17)) (NumP.mk (H.f 42) (H.f 43)) (Nat.le_trans (Nat.add_le_add (Nat.add_le_add (Nat.add_le_add p1.2.2.1.1 p1.2.2.1.2) k4.1) k4.2) (by decide))) ?_
 refine RunD.cR spNum (fun _ _ _ H=>eScale (m.undo.c.mul m.undo.d.conj) c.c (NumP.mk (H.f 44) (H.f 45)) (RatP.n (H.f 11)) (Nat.le_trans (Nat.add_le_add (Nat.add_le_add k11.1 k11.2) e3) (by decide))) ?_
 refine RunD.cR spNum (fun _ _ _ H=>eAdd ((((m.undo.a.mul m.undo.b.conj).scale c.a).add ((c.b.mul m.undo.a).mul m.undo.d.conj)).add (((c.b.mul m.undo.b).conj).mul m.undo.c)) ((m.undo.c.mul m.undo.d.conj).scale c.c) (NumP.mk (H.f 40) (H.f 41)) (NumP.mk (H.f 46) (H.f 47)) (Nat.le_trans (Nat.add_le_add (Nat.add_le_add (Nat.add_le_add k10.1 k10.2) k12.1) k12.2) (by decide))) ?_
 refine RunD.en ?_
 refine (Bool.eq_false_or_eq_true (m.t)).elim (fun c1=>?_) (fun c1=>?_)
 · refine Run.kn c1 ?_
   refine Run.cR spNum (fun _ _ _ H=>eConj (((((m.undo.a.mul m.undo.b.conj).scale c.a).add ((c.b.mul m.undo.a).mul m.undo.d.conj)).add (((c.b.mul m.undo.b).conj).mul m.undo.c)).add ((m.undo.c.mul m.undo.d.conj).scale c.c)) (NumP.mk (H.f 48) (H.f 49)) (Nat.le_trans (Nat.add_le_add k13.1 k13.2) (by decide))) ?_
   refine Run.dr ?_
   refine RunD.cR spRat (fun _ _ _ H=>mtAtL m.undo.a m.undo.c c (NumP.mk (H.f 12) (H.f 13)) (NumP.mk (H.f 16) (H.f 17)) (H.b 1) (RingP.mk (H.f 8) (H.f 9) (H.f 10) (H.f 11)) (Nat.le_trans (Nat.add_le_add (Nat.add_le_add (Nat.add_le_add p1.1.1 p1.1.2) p1.2.2.1.1) p1.2.2.1.2) (by decide)) p2) ?_
   refine RunD.cR spRat (fun _ _ _ H=>mtAtL m.undo.b m.undo.d c (NumP.mk (H.f 14) (H.f 15)) (NumP.mk (H.f 18) (H.f 19)) (H.b 1) (RingP.mk (H.f 8) (H.f 9) (H.f 10) (H.f 11)) (Nat.le_trans (Nat.add_le_add (Nat.add_le_add (Nat.add_le_add p1.2.1.1 p1.2.1.2) p1.2.2.2.1) p1.2.2.2.2) (by decide)) p2) ?_
   refine RunD.cR spRing (fun _ _ _ H=>rgNorm (Ci.mk (c.at m.undo.a m.undo.c) ((((((m.undo.a.mul m.undo.b.conj).scale c.a).add ((c.b.mul m.undo.a).mul m.undo.d.conj)).add (((c.b.mul m.undo.b).conj).mul m.undo.c)).add ((m.undo.c.mul m.undo.d.conj).scale c.c)).conj) (c.at m.undo.b m.undo.d)) (RingP.mk (H.f 52) (H.f 50) (H.f 51) (H.f 53)) (Nat.le_trans (Nat.add_le_add (Nat.add_le_add (Nat.add_le_add k15 k14.1) k14.2) k16) (by decide)) (by first|exact imgF_1' p3 p4 c1|exact imgF_0' p3 p4 c1)) ?_
   refine RunD.en ?_
   exact Run.rR (fun _ _ _ H=>VPe (φ:=RingP) (imgE_1 c1) (RingP.mk (H.f 54) (H.f 55) (H.f 56) (H.f 57)))
 · refine Run.kn c1 ?_
   refine Run.dr ?_
   refine RunD.cR spRat (fun _ _ _ H=>mtAtL m.undo.a m.undo.c c (NumP.mk (H.f 12) (H.f 13)) (NumP.mk (H.f 16) (H.f 17)) (H.b 1) (RingP.mk (H.f 8) (H.f 9) (H.f 10) (H.f 11)) (Nat.le_trans (Nat.add_le_add (Nat.add_le_add (Nat.add_le_add p1.1.1 p1.1.2) p1.2.2.1.1) p1.2.2.1.2) (by decide)) p2) ?_
   refine RunD.cR spRat (fun _ _ _ H=>mtAtL m.undo.b m.undo.d c (NumP.mk (H.f 14) (H.f 15)) (NumP.mk (H.f 18) (H.f 19)) (H.b 1) (RingP.mk (H.f 8) (H.f 9) (H.f 10) (H.f 11)) (Nat.le_trans (Nat.add_le_add (Nat.add_le_add (Nat.add_le_add p1.2.1.1 p1.2.1.2) p1.2.2.2.1) p1.2.2.2.2) (by decide)) p2) ?_
   refine RunD.cR spRing (fun _ _ _ H=>rgNorm (Ci.mk (c.at m.undo.a m.undo.c) (((((m.undo.a.mul m.undo.b.conj).scale c.a).add ((c.b.mul m.undo.a).mul m.undo.d.conj)).add (((c.b.mul m.undo.b).conj).mul m.undo.c)).add ((m.undo.c.mul m.undo.d.conj).scale c.c)) (c.at m.undo.b m.undo.d)) (RingP.mk (H.f 50) (H.f 48) (H.f 49) (H.f 51)) (Nat.le_trans (Nat.add_le_add (Nat.add_le_add (Nat.add_le_add k15 k13.1) k13.2) k16) (by decide)) (by first|exact imgF_1' p3 p4 c1|exact imgF_0' p3 p4 c1)) ?_
   refine RunD.en ?_
   exact Run.rR (fun _ _ _ H=>VPe (φ:=RingP) (imgE_0 c1) (RingP.mk (H.f 52) (H.f 53) (H.f 54) (H.f 55)))
@[reducible] def xI:Mb:=Mb.mk (Cx.ofInt (1:Int) (0:Int)) ⟨0,0⟩ ⟨0,0⟩ (Cx.ofInt (1:Int) (0:Int)) false
@[reducible] def xF (p:Pn):Mb:=Mb.mk (Cx.ofInt (0:Int) (0:Int)) (Cx.ofInt (1:Int) (0:Int)) (Cx.ofInt (1:Int) (0:Int)) p.z.neg false
@[reducible] def rgI (m:Mb) (c:Ci):Ci:=(m.img c).nrm
@[reducible] def m12 (g h:Ci):Rat:=(-g.b.im)*(h.a*Rat.divInt 1 2)-(g.a*Rat.divInt 1 2)*(-h.b.im)
@[reducible] def m20 (g h:Ci):Rat:=(g.a*Rat.divInt 1 2)*(-h.b.re)-(-g.b.re)*(h.a*Rat.divInt 1 2)
@[reducible] def m01 (g h:Ci):Rat:=(-g.b.re)*(-h.b.im)-(-g.b.im)*(-h.b.re)
@[reducible] def lnC (g h:Ci):Ci:=⟨0,(Cx.mk (m12 g h) 0).add ((Cx.mk (m20 g h) 0).mul (Cx.ofInt (0:Int) (1:Int))),m01 g h⟩
def coV (b:Bool) (K:Ci):Value:=.tuple #[rciV (cond b (cicut K) rzCi),.int .i64 (cond b (cierr K) 7)]
theorem piv_le {c:Ci} {n:Nat} (h:ht c.a≤n∧HB c.b n∧ht c.c≤n):ht c.piv≤n:=by
 unfold Ci.piv
 split
 ·split
  ·exact h.2.1.2
  ·exact h.2.1.1
 ·exact h.1
theorem rgI_le {m:Mb} {c:Ci} (u:m.ub 30000) (h:ht c.a+ht c.b.re+ht c.b.im+ht c.c≤40000):ht (rgI m c).a≤2640000∧HB (rgI m c).b 2640000∧ht (rgI m c).c≤2640000:=by
 obtain ⟨e1,e2,e3⟩:=hb_ci h
 obtain ⟨u1,u2,u3,u4⟩:=u
 have a1:=at_hb e1 e2 e3 u1 u3 1000000
 have a2:=at_hb e1 e2 e3 u2 u4 1000000
 have k0:=HB.conj u2
 have k1:=HB.mul u1 k0 120000
 have k2:=HB.mul (HB.two (z:=Cx.mk c.a 0) e1 (show ht (0:Rat)≤40000 by decide) 40000) k1 320000
 have k3:=HB.mul e2 u1 140000
 have k4:=HB.conj u4
 have k5:=HB.mul k3 k4 340000
 have k6:=HB.add k2 k5 660000
 have k7:=HB.mul e2 u2 140000
 have k8:=HB.conj k7
 have k9:=HB.mul k8 u3 340000
 have k10:=HB.add k6 k9 1000000
 have k11:=HB.mul u3 k4 120000
 have k12:=HB.mul (HB.two (z:=Cx.mk c.c 0) e3 (show ht (0:Rat)≤40000 by decide) 40000) k11 320000
 have k13:=(HB.add k10 k12 1320000).cj m.t
 have hi:ht (m.img c).a≤1320000∧HB (m.img c).b 1320000∧ht (m.img c).c≤1320000:=⟨Nat.le_trans a1 (by decide),k13,Nat.le_trans a2 (by decide)⟩
 have hp:=hb_inv (piv_le hi)
 exact ⟨hb_mul hi.1 hp 2640000,hi.2.1.scale hp 2640000,hb_mul hi.2.2 hp 2640000⟩
theorem rgI_lL {m:Mb} {c:Ci} (u:m.ub 30000) (h:ht c.a≤4∧HB c.b 11000000∧ht c.c≤11000000):ht (rgI m c).a+ht (rgI m c).b.re+ht (rgI m c).b.im+ht (rgI m c).c≤1073741824:=by
 obtain ⟨e1,e2,e3⟩:=h
 obtain ⟨u1,u2,u3,u4⟩:=u
 have a1:=at_hb e1 e2 e3 u1 u3 111000000
 have a2:=at_hb e1 e2 e3 u2 u4 111000000
 have k0:=HB.conj u2
 have k1:=HB.mul u1 k0 120000
 have k2:=HB.mul (HB.two (z:=Cx.mk c.a 0) e1 (show ht (0:Rat)≤4 by decide) 4) k1 240008
 have k3:=HB.mul e2 u1 22060000
 have k4:=HB.conj u4
 have k5:=HB.mul k3 k4 44180000
 have k6:=HB.add k2 k5 44420008
 have k7:=HB.mul e2 u2 22060000
 have k8:=HB.conj k7
 have k9:=HB.mul k8 u3 44180000
 have k10:=HB.add k6 k9 88600008
 have k11:=HB.mul u3 k4 120000
 have k12:=HB.mul (HB.two (z:=Cx.mk c.c 0) e3 (show ht (0:Rat)≤11000000 by decide) 11000000) k11 22240000
 have k13:=(HB.add k10 k12 111000000).cj m.t
 have hi:ht (m.img c).a≤111000000∧HB (m.img c).b 111000000∧ht (m.img c).c≤111000000:=⟨a1,k13,a2⟩
 have hp:=hb_inv (piv_le hi)
 have g1:ht (rgI m c).a≤222640000:=hb_mul hi.1 hp 222640000
 have g2:HB (rgI m c).b 222640000:=hi.2.1.scale hp 222640000
 have g3:ht (rgI m c).c≤222640000:=hb_mul hi.2.2 hp 222640000
 obtain ⟨g4,g5⟩:=g2
 omega
theorem lnC_b (u v:Rat):(Cx.mk u 0).add ((Cx.mk v 0).mul (Cx.ofInt (0:Int) (1:Int)))=⟨u,v⟩:=by
 simp [Cx.add,Cx.mul,Cx.ofInt]
 constructor<;>grind
theorem ivCoI (c d:Ci) (P:Pn) (p0:ciOk (rci c)=true) (p1:ciOk (rci d)=true) (p2:PnF P) (p3:P.inf=true) (u1:xI.ub 30000) (u2:xI.undo.ub 30000) (d1:xI.det.zero=false) (d2:xI.undo.det.zero=false) (l1:ht xI.a.re+ht xI.a.im+ht xI.b.re+ht xI.b.im+ht xI.c.re+ht xI.c.im+ht xI.d.re+ht xI.d.im≤268435456) (l2:ht xI.undo.a.re+ht xI.undo.a.im+ht xI.undo.b.re+ht xI.undo.b.im+ht xI.undo.c.re+ht xI.undo.c.im+ht xI.undo.d.re+ht xI.undo.d.im≤268435456):Calls Tryz.prog 63 #[ciV c,ciV d,rpnV (pnR P)] W (RetV (coV (lnC (rgI xI c) (rgI xI d)).pos (xI.undo.img (lnC (rgI xI c) (rgI xI d))).nrm.nrm) W):=by
 have f1:=cifits_ht (ciOk_c p0).1
 have f2:=cifits_ht (ciOk_c p1).1
 have q1:=(ciOk_c p0).2.1
 have q2:=(ciOk_c p1).2.1
 have r1:=rgI_le u1 f1
 have r2:=rgI_le u1 f2
 have a1:ht (-(rgI xI c).b.re)≤2640000:=hb_neg r1.2.1.1
 have a2:ht (-(rgI xI c).b.im)≤2640000:=hb_neg r1.2.1.2
 have a3:ht ((rgI xI c).a*Rat.divInt 1 2)≤2640003:=hb_mul r1.1 half_ht 2640003
 have b1:ht (-(rgI xI d).b.re)≤2640000:=hb_neg r2.2.1.1
 have b2:ht (-(rgI xI d).b.im)≤2640000:=hb_neg r2.2.1.2
 have b3:ht ((rgI xI d).a*Rat.divInt 1 2)≤2640003:=hb_mul r2.1 half_ht 2640003
 have ms:ht (-(rgI xI c).b.re)≤10000000∧ht (-(rgI xI c).b.im)≤10000000∧ht ((rgI xI c).a*Rat.divInt 1 2)≤10000000∧ht (-(rgI xI d).b.re)≤10000000∧ht (-(rgI xI d).b.im)≤10000000∧ht ((rgI xI d).a*Rat.divInt 1 2)≤10000000:=⟨Nat.le_trans a1 (by decide),Nat.le_trans a2 (by decide),Nat.le_trans a3 (by decide),Nat.le_trans b1 (by decide),Nat.le_trans b2 (by decide),Nat.le_trans b3 (by decide)⟩
 have w1:ht (m12 (rgI xI c) (rgI xI d))≤10560006:=hb_sub (hb_mul a2 b3 5280003) (hb_mul a3 b2 5280003) 10560006
 have w2:ht (m20 (rgI xI c) (rgI xI d))≤10560006:=hb_sub (hb_mul a3 b1 5280003) (hb_mul a1 b3 5280003) 10560006
 have w3:ht (m01 (rgI xI c) (rgI xI d))≤10560006:=hb_sub (hb_mul a1 b2 5280003) (hb_mul a2 b1 5280003) 10560006
 have z0:ht (0:Rat)≤2:=by decide
 have w4:HB (Cx.ofInt (0:Int) (1:Int)) 4:=⟨by decide,by decide⟩
 have w5:=HB.mul (HB.two (z:=Cx.mk (m20 (rgI xI c) (rgI xI d)) 0) w2 z0 10560006) w4 21120020
 have w7:HB (lnC (rgI xI c) (rgI xI d)).b 11000000:=by rw [show (lnC (rgI xI c) (rgI xI d)).b=⟨m12 (rgI xI c) (rgI xI d),m20 (rgI xI c) (rgI xI d)⟩ from lnC_b _ _];exact ⟨Nat.le_trans w1 (by decide),Nat.le_trans w2 (by decide)⟩
 have w6:HB (lnC (rgI xI c) (rgI xI d)).b 31680026:=HB.add (HB.two (z:=Cx.mk (m12 (rgI xI c) (rgI xI d)) 0) w1 z0 10560006) w5 31680026
 refine Run.goP (S:=Z0) (((Pack.nil.k (ciV c) (ciC c).toList (.s (.agg (ks 0 16)))).k (ciV d) (ciC d).toList (.s (.agg (ks 0 16)))).k (rpnV (pnR P)) (rpnC (pnR P)).toList (.s (.agg (ks 0 9)))) Tryz.func63 rfl ?_
 refine Run.cB (n:=2) (T:=203) (φs:=ringF [c,d]) (fun _ _ _ H=>(ivWhY c d (H.b 4) p0 p1).mono fun _ _ h=>retRow_B h) (fun cap=>?_)
 refine Run.cR (spPlaceC true) (fun _ _ _ H=>eSpotP P p2) ?_
 refine Run.cR spMat (fun _ _ _ H=>eStill) ?_
 refine Run.kn p3 ?_
 refine Run.cR spRing (fun _ _ _ H=>mtImgL xI c (MatP.mk (H.f 10) (H.f 11) (H.f 12) (H.f 13) (H.f 14) (H.f 15) (H.f 16) (H.f 17)) (RingP.mk (H.f 0) (H.f 1) (H.f 2) (H.f 3)) l1 u1 ⟨by omega,by unfold HB;omega,by omega⟩ d1 q1) ?_
 refine Run.cR sp2Rat (fun _ _ _ H=>eParts (rgI xI c).b (NumP.mk (H.f 19) (H.f 20))) ?_
 refine Run.dr ?_
 refine RunD.cO 11 softRat (fun _ _ _ H=>qNeg (rgI xI c).b.re (RatP.blk (H.oz 11)) (anyV (H.f 22)) (Nat.le_trans r1.2.1.1 (by decide))) ?_
 refine RunD.cO 12 softRat (fun _ _ _ H=>qNeg (rgI xI c).b.im (RatP.blk (H.oz 12)) (anyV (H.f 23)) (Nat.le_trans r1.2.1.2 (by decide))) ?_
 refine RunD.cR spRat (fun _ _ _ H=>qNewRat 1 2 (by decide) (by decide) (by decide) (by decide) (by decide)) ?_
 refine RunD.cO 13 softRat (fun _ _ _ H=>qMul (rgI xI c).a (Rat.divInt 1 2) (RatP.blk (H.oz 13)) (anyV (H.f 18)) (anyV (H.f 26)) (Nat.le_trans (Nat.add_le_add r1.1 half_ht) (by decide))) ?_
 refine RunD.en ?_
 refine Run.cR spRing (fun _ _ _ H=>mtImgL xI d (MatP.mk (H.f 10) (H.f 11) (H.f 12) (H.f 13) (H.f 14) (H.f 15) (H.f 16) (H.f 17)) (RingP.mk (H.f 4) (H.f 5) (H.f 6) (H.f 7)) l1 u1 ⟨by omega,by unfold HB;omega,by omega⟩ d1 q2) ?_
 refine Run.cR sp2Rat (fun _ _ _ H=>eParts (rgI xI d).b (NumP.mk (H.f 29) (H.f 30))) ?_
 refine Run.dr ?_
 refine RunD.cO 16 softRat (fun _ _ _ H=>qNeg (rgI xI d).b.re (RatP.blk (H.oz 16)) (anyV (H.f 32)) (Nat.le_trans r2.2.1.1 (by decide))) ?_
 refine RunD.cO 17 softRat (fun _ _ _ H=>qNeg (rgI xI d).b.im (RatP.blk (H.oz 17)) (anyV (H.f 33)) (Nat.le_trans r2.2.1.2 (by decide))) ?_
 refine RunD.cR spRat (fun _ _ _ H=>qNewRat 1 2 (by decide) (by decide) (by decide) (by decide) (by decide)) ?_
 refine RunD.cO 18 softRat (fun _ _ _ H=>qMul (rgI xI d).a (Rat.divInt 1 2) (RatP.blk (H.oz 18)) (anyV (H.f 28)) (anyV (H.f 36)) (Nat.le_trans (Nat.add_le_add r2.1 half_ht) (by decide))) ?_
 refine RunD.en ?_
 refine Run.se 11 ?_
 refine Run.se 12 ?_
 refine Run.se 13 ?_
 refine Run.se 16 ?_
 refine Run.se 17 ?_
 refine Run.se 18 ?_
 refine Run.cR spRat (fun _ _ _ H=>ivMn12 (T:=261) _ _ _ _ _ _ (H.b 8) (H.s 11) (H.s 12) (H.s 13) (H.s 16) (H.s 17) (H.s 18) ms) ?_
 refine Run.cR spNum (fun _ _ _ H=>eReal (m12 (rgI xI c) (rgI xI d)) (H.f 38)) ?_
 refine Run.cR spRat (fun _ _ _ H=>ivMn20 (T:=261) _ _ _ _ _ _ (H.b 8) (H.s 11) (H.s 12) (H.s 13) (H.s 16) (H.s 17) (H.s 18) ms) ?_
 refine Run.cR spNum (fun _ _ _ H=>eReal (m20 (rgI xI c) (rgI xI d)) (H.f 41)) ?_
 refine Run.dr ?_
 refine RunD.cR spNum (fun _ _ _ H=>eInt 0 1 (by decide) (by decide) (by decide) (by decide)) ?_
 refine RunD.cR spNum (fun _ _ _ H=>eNMul ⟨m20 (rgI xI c) (rgI xI d),0⟩ (Cx.ofInt (0:Int) (1:Int)) (NumP.mk (H.f 42) (H.f 43)) (NumP.mk (H.f 44) (H.f 45)) (Nat.le_trans (Nat.add_le_add (Nat.add_le_add (Nat.add_le_add w2 z0) w4.1) w4.2) (by decide))) ?_
 refine RunD.cR spNum (fun _ _ _ H=>eAdd ⟨m12 (rgI xI c) (rgI xI d),0⟩ ((Cx.mk (m20 (rgI xI c) (rgI xI d)) 0).mul (Cx.ofInt (0:Int) (1:Int))) (NumP.mk (H.f 39) (H.f 40)) (NumP.mk (H.f 46) (H.f 47)) (Nat.le_trans (Nat.add_le_add (Nat.add_le_add (Nat.add_le_add w1 z0) w5.1) w5.2) (by decide))) ?_
 refine RunD.cR spRat (fun _ _ _ H=>ivMn1 (T:=261) _ _ _ _ _ _ (H.b 8) (H.s 11) (H.s 12) (H.s 13) (H.s 16) (H.s 17) (H.s 18) ms) ?_
 refine RunD.en ?_
 refine Run.se 21 ?_
 refine Run.cR spRat (fun _ _ _ H=>rgPow (lnC (rgI xI c) (rgI xI d)) (RingP.mk (H.rz 21) (H.f 48) (H.f 49) (H.f 50)) (Nat.le_trans (Nat.add_le_add (Nat.add_le_add (Nat.add_le_add z0 w6.1) w6.2) w3) (by decide))) ?_
 refine Run.cV [.int .i64 (lnC (rgI xI c) (rgI xI d)).pow.num.sign] kb (fun _ _ _ H=>qSign (lnC (rgI xI c) (rgI xI d)).pow (H.f 51)) ?_
 cases p4:(lnC (rgI xI c) (rgI xI d)).pos with
 | false =>
  refine Run.ik .leq (lnC (rgI xI c) (rgI xI d)).pow.num.sign 0 true (posT p4) ?_
  exact Run.rV rfl
 | true =>
  refine Run.ik .leq (lnC (rgI xI c) (rgI xI d)).pow.num.sign 0 false (posF p4) ?_
  refine Run.dr ?_
  refine RunD.cR spMat (fun _ _ _ H=>mtUndo xI (MatP.mk (H.f 10) (H.f 11) (H.f 12) (H.f 13) (H.f 14) (H.f 15) (H.f 16) (H.f 17)) l1 d1) ?_
  refine RunD.cR spRing (fun _ _ _ H=>mtImgL xI.undo (lnC (rgI xI c) (rgI xI d)) (MatP.mk (H.f 52) (H.f 53) (H.f 54) (H.f 55) (H.f 56) (H.f 57) (H.f 58) (H.f 59)) (RingP.mk (H.rz 21) (H.f 48) (H.f 49) (H.f 50)) l2 u2 ⟨Nat.le_trans z0 (by decide),w7,Nat.le_trans w3 (by decide)⟩ d2 p4) ?_
  refine RunD.cV ((rciC (cicut (xI.undo.img (lnC (rgI xI c) (rgI xI d))).nrm.nrm)).toList++[.int .i64 (cierr (xI.undo.img (lnC (rgI xI c) (rgI xI d))).nrm.nrm)]) (.tup [.agg (ks 0 16),.o (.k 16)]) (fun _ _ _ H=>rgTold (xI.undo.img (lnC (rgI xI c) (rgI xI d))).nrm (RingP.mk (H.f 60) (H.f 61) (H.f 62) (H.f 63)) (rgI_lL u2 ⟨Nat.le_trans z0 (by decide),w7,Nat.le_trans w3 (by decide)⟩) (pos_flat (pos_nrm (img_pos d2 p4)))) ?_
  refine RunD.en ?_
  exact Run.rV rfl
theorem ivCoF (c d:Ci) (P:Pn) (p0:ciOk (rci c)=true) (p1:ciOk (rci d)=true) (p2:PnF P) (p3:P.inf=false) (u1:(xF P).ub 30000) (u2:(xF P).undo.ub 30000) (d1:(xF P).det.zero=false) (d2:(xF P).undo.det.zero=false) (l1:ht (xF P).a.re+ht (xF P).a.im+ht (xF P).b.re+ht (xF P).b.im+ht (xF P).c.re+ht (xF P).c.im+ht (xF P).d.re+ht (xF P).d.im≤268435456) (l2:ht (xF P).undo.a.re+ht (xF P).undo.a.im+ht (xF P).undo.b.re+ht (xF P).undo.b.im+ht (xF P).undo.c.re+ht (xF P).undo.c.im+ht (xF P).undo.d.re+ht (xF P).undo.d.im≤268435456):Calls Tryz.prog 63 #[ciV c,ciV d,rpnV (pnR P)] W (RetV (coV (lnC (rgI (xF P) c) (rgI (xF P) d)).pos ((xF P).undo.img (lnC (rgI (xF P) c) (rgI (xF P) d))).nrm.nrm) W):=by
 have f1:=cifits_ht (ciOk_c p0).1
 have f2:=cifits_ht (ciOk_c p1).1
 have q1:=(ciOk_c p0).2.1
 have q2:=(ciOk_c p1).2.1
 have r1:=rgI_le u1 f1
 have r2:=rgI_le u1 f2
 have a1:ht (-(rgI (xF P) c).b.re)≤2640000:=hb_neg r1.2.1.1
 have a2:ht (-(rgI (xF P) c).b.im)≤2640000:=hb_neg r1.2.1.2
 have a3:ht ((rgI (xF P) c).a*Rat.divInt 1 2)≤2640003:=hb_mul r1.1 half_ht 2640003
 have b1:ht (-(rgI (xF P) d).b.re)≤2640000:=hb_neg r2.2.1.1
 have b2:ht (-(rgI (xF P) d).b.im)≤2640000:=hb_neg r2.2.1.2
 have b3:ht ((rgI (xF P) d).a*Rat.divInt 1 2)≤2640003:=hb_mul r2.1 half_ht 2640003
 have ms:ht (-(rgI (xF P) c).b.re)≤10000000∧ht (-(rgI (xF P) c).b.im)≤10000000∧ht ((rgI (xF P) c).a*Rat.divInt 1 2)≤10000000∧ht (-(rgI (xF P) d).b.re)≤10000000∧ht (-(rgI (xF P) d).b.im)≤10000000∧ht ((rgI (xF P) d).a*Rat.divInt 1 2)≤10000000:=⟨Nat.le_trans a1 (by decide),Nat.le_trans a2 (by decide),Nat.le_trans a3 (by decide),Nat.le_trans b1 (by decide),Nat.le_trans b2 (by decide),Nat.le_trans b3 (by decide)⟩
 have w1:ht (m12 (rgI (xF P) c) (rgI (xF P) d))≤10560006:=hb_sub (hb_mul a2 b3 5280003) (hb_mul a3 b2 5280003) 10560006
 have w2:ht (m20 (rgI (xF P) c) (rgI (xF P) d))≤10560006:=hb_sub (hb_mul a3 b1 5280003) (hb_mul a1 b3 5280003) 10560006
 have w3:ht (m01 (rgI (xF P) c) (rgI (xF P) d))≤10560006:=hb_sub (hb_mul a1 b2 5280003) (hb_mul a2 b1 5280003) 10560006
 have z0:ht (0:Rat)≤2:=by decide
 have w4:HB (Cx.ofInt (0:Int) (1:Int)) 4:=⟨by decide,by decide⟩
 have w5:=HB.mul (HB.two (z:=Cx.mk (m20 (rgI (xF P) c) (rgI (xF P) d)) 0) w2 z0 10560006) w4 21120020
 have w7:HB (lnC (rgI (xF P) c) (rgI (xF P) d)).b 11000000:=by rw [show (lnC (rgI (xF P) c) (rgI (xF P) d)).b=⟨m12 (rgI (xF P) c) (rgI (xF P) d),m20 (rgI (xF P) c) (rgI (xF P) d)⟩ from lnC_b _ _];exact ⟨Nat.le_trans w1 (by decide),Nat.le_trans w2 (by decide)⟩
 have w6:HB (lnC (rgI (xF P) c) (rgI (xF P) d)).b 31680026:=HB.add (HB.two (z:=Cx.mk (m12 (rgI (xF P) c) (rgI (xF P) d)) 0) w1 z0 10560006) w5 31680026
 refine Run.goP (S:=Z0) (((Pack.nil.k (ciV c) (ciC c).toList (.s (.agg (ks 0 16)))).k (ciV d) (ciC d).toList (.s (.agg (ks 0 16)))).k (rpnV (pnR P)) (rpnC (pnR P)).toList (.s (.agg (ks 0 9)))) Tryz.func63 rfl ?_
 refine Run.cB (n:=2) (T:=203) (φs:=ringF [c,d]) (fun _ _ _ H=>(ivWhY c d (H.b 4) p0 p1).mono fun _ _ h=>retRow_B h) (fun cap=>?_)
 refine Run.cR (spPlaceC true) (fun _ _ _ H=>eSpotP P p2) ?_
 refine Run.cR spMat (fun _ _ _ H=>eStill) ?_
 refine Run.kn p3 ?_
 refine Run.dr ?_
 refine RunD.cR spNum (fun _ _ _ H=>eInt 0 0 (by decide) (by decide) (by decide) (by decide)) ?_
 refine RunD.cR spNum (fun _ _ _ H=>eInt 1 0 (by decide) (by decide) (by decide) (by decide)) ?_
 refine RunD.cR spNum (fun _ _ _ H=>eInt 1 0 (by decide) (by decide) (by decide) (by decide)) ?_
 refine RunD.cR spNum (fun _ _ _ H=>eNeg P.z (NumP.mk (H.f 8) (H.f 9)) (by have:=p2.ht;omega)) ?_
 refine RunD.en ?_
 refine Run.cR spRing (fun _ _ _ H=>mtImgL (xF P) c (MatP.mk (H.f 18) (H.f 19) (H.f 20) (H.f 21) (H.f 22) (H.f 23) (H.f 24) (H.f 25)) (RingP.mk (H.f 0) (H.f 1) (H.f 2) (H.f 3)) l1 u1 ⟨by omega,by unfold HB;omega,by omega⟩ d1 q1) ?_
 refine Run.cR sp2Rat (fun _ _ _ H=>eParts (rgI (xF P) c).b (NumP.mk (H.f 27) (H.f 28))) ?_
 refine Run.dr ?_
 refine RunD.cO 11 softRat (fun _ _ _ H=>qNeg (rgI (xF P) c).b.re (RatP.blk (H.oz 11)) (anyV (H.f 30)) (Nat.le_trans r1.2.1.1 (by decide))) ?_
 refine RunD.cO 12 softRat (fun _ _ _ H=>qNeg (rgI (xF P) c).b.im (RatP.blk (H.oz 12)) (anyV (H.f 31)) (Nat.le_trans r1.2.1.2 (by decide))) ?_
 refine RunD.cR spRat (fun _ _ _ H=>qNewRat 1 2 (by decide) (by decide) (by decide) (by decide) (by decide)) ?_
 refine RunD.cO 13 softRat (fun _ _ _ H=>qMul (rgI (xF P) c).a (Rat.divInt 1 2) (RatP.blk (H.oz 13)) (anyV (H.f 26)) (anyV (H.f 34)) (Nat.le_trans (Nat.add_le_add r1.1 half_ht) (by decide))) ?_
 refine RunD.en ?_
 refine Run.cR spRing (fun _ _ _ H=>mtImgL (xF P) d (MatP.mk (H.f 18) (H.f 19) (H.f 20) (H.f 21) (H.f 22) (H.f 23) (H.f 24) (H.f 25)) (RingP.mk (H.f 4) (H.f 5) (H.f 6) (H.f 7)) l1 u1 ⟨by omega,by unfold HB;omega,by omega⟩ d1 q2) ?_
 refine Run.cR sp2Rat (fun _ _ _ H=>eParts (rgI (xF P) d).b (NumP.mk (H.f 37) (H.f 38))) ?_
 refine Run.dr ?_
 refine RunD.cO 16 softRat (fun _ _ _ H=>qNeg (rgI (xF P) d).b.re (RatP.blk (H.oz 16)) (anyV (H.f 40)) (Nat.le_trans r2.2.1.1 (by decide))) ?_
 refine RunD.cO 17 softRat (fun _ _ _ H=>qNeg (rgI (xF P) d).b.im (RatP.blk (H.oz 17)) (anyV (H.f 41)) (Nat.le_trans r2.2.1.2 (by decide))) ?_
 refine RunD.cR spRat (fun _ _ _ H=>qNewRat 1 2 (by decide) (by decide) (by decide) (by decide) (by decide)) ?_
 refine RunD.cO 18 softRat (fun _ _ _ H=>qMul (rgI (xF P) d).a (Rat.divInt 1 2) (RatP.blk (H.oz 18)) (anyV (H.f 36)) (anyV (H.f 44)) (Nat.le_trans (Nat.add_le_add r2.1 half_ht) (by decide))) ?_
 refine RunD.en ?_
 refine Run.se 11 ?_
 refine Run.se 12 ?_
 refine Run.se 13 ?_
 refine Run.se 16 ?_
 refine Run.se 17 ?_
 refine Run.se 18 ?_
 refine Run.cR spRat (fun _ _ _ H=>ivMn12 (T:=261) _ _ _ _ _ _ (H.b 8) (H.s 11) (H.s 12) (H.s 13) (H.s 16) (H.s 17) (H.s 18) ms) ?_
 refine Run.cR spNum (fun _ _ _ H=>eReal (m12 (rgI (xF P) c) (rgI (xF P) d)) (H.f 46)) ?_
 refine Run.cR spRat (fun _ _ _ H=>ivMn20 (T:=261) _ _ _ _ _ _ (H.b 8) (H.s 11) (H.s 12) (H.s 13) (H.s 16) (H.s 17) (H.s 18) ms) ?_
 refine Run.cR spNum (fun _ _ _ H=>eReal (m20 (rgI (xF P) c) (rgI (xF P) d)) (H.f 49)) ?_
 refine Run.dr ?_
 refine RunD.cR spNum (fun _ _ _ H=>eInt 0 1 (by decide) (by decide) (by decide) (by decide)) ?_
 refine RunD.cR spNum (fun _ _ _ H=>eNMul ⟨m20 (rgI (xF P) c) (rgI (xF P) d),0⟩ (Cx.ofInt (0:Int) (1:Int)) (NumP.mk (H.f 50) (H.f 51)) (NumP.mk (H.f 52) (H.f 53)) (Nat.le_trans (Nat.add_le_add (Nat.add_le_add (Nat.add_le_add w2 z0) w4.1) w4.2) (by decide))) ?_
 refine RunD.cR spNum (fun _ _ _ H=>eAdd ⟨m12 (rgI (xF P) c) (rgI (xF P) d),0⟩ ((Cx.mk (m20 (rgI (xF P) c) (rgI (xF P) d)) 0).mul (Cx.ofInt (0:Int) (1:Int))) (NumP.mk (H.f 47) (H.f 48)) (NumP.mk (H.f 54) (H.f 55)) (Nat.le_trans (Nat.add_le_add (Nat.add_le_add (Nat.add_le_add w1 z0) w5.1) w5.2) (by decide))) ?_
 refine RunD.cR spRat (fun _ _ _ H=>ivMn1 (T:=261) _ _ _ _ _ _ (H.b 8) (H.s 11) (H.s 12) (H.s 13) (H.s 16) (H.s 17) (H.s 18) ms) ?_
 refine RunD.en ?_
 refine Run.se 21 ?_
 refine Run.cR spRat (fun _ _ _ H=>rgPow (lnC (rgI (xF P) c) (rgI (xF P) d)) (RingP.mk (H.rz 21) (H.f 56) (H.f 57) (H.f 58)) (Nat.le_trans (Nat.add_le_add (Nat.add_le_add (Nat.add_le_add z0 w6.1) w6.2) w3) (by decide))) ?_
 refine Run.cV [.int .i64 (lnC (rgI (xF P) c) (rgI (xF P) d)).pow.num.sign] kb (fun _ _ _ H=>qSign (lnC (rgI (xF P) c) (rgI (xF P) d)).pow (H.f 59)) ?_
 cases p4:(lnC (rgI (xF P) c) (rgI (xF P) d)).pos with
 | false =>
  refine Run.ik .leq (lnC (rgI (xF P) c) (rgI (xF P) d)).pow.num.sign 0 true (posT p4) ?_
  exact Run.rV rfl
 | true =>
  refine Run.ik .leq (lnC (rgI (xF P) c) (rgI (xF P) d)).pow.num.sign 0 false (posF p4) ?_
  refine Run.dr ?_
  refine RunD.cR spMat (fun _ _ _ H=>mtUndo (xF P) (MatP.mk (H.f 18) (H.f 19) (H.f 20) (H.f 21) (H.f 22) (H.f 23) (H.f 24) (H.f 25)) l1 d1) ?_
  refine RunD.cR spRing (fun _ _ _ H=>mtImgL (xF P).undo (lnC (rgI (xF P) c) (rgI (xF P) d)) (MatP.mk (H.f 60) (H.f 61) (H.f 62) (H.f 63) (H.f 64) (H.f 65) (H.f 66) (H.f 67)) (RingP.mk (H.rz 21) (H.f 56) (H.f 57) (H.f 58)) l2 u2 ⟨Nat.le_trans z0 (by decide),w7,Nat.le_trans w3 (by decide)⟩ d2 p4) ?_
  refine RunD.cV ((rciC (cicut ((xF P).undo.img (lnC (rgI (xF P) c) (rgI (xF P) d))).nrm.nrm)).toList++[.int .i64 (cierr ((xF P).undo.img (lnC (rgI (xF P) c) (rgI (xF P) d))).nrm.nrm)]) (.tup [.agg (ks 0 16),.o (.k 16)]) (fun _ _ _ H=>rgTold ((xF P).undo.img (lnC (rgI (xF P) c) (rgI (xF P) d))).nrm (RingP.mk (H.f 68) (H.f 69) (H.f 70) (H.f 71)) (rgI_lL u2 ⟨Nat.le_trans z0 (by decide),w7,Nat.le_trans w3 (by decide)⟩) (pos_flat (pos_nrm (img_pos d2 p4)))) ?_
  refine RunD.en ?_
  exact Run.rV rfl
end Go.Proofs.YtcpjdjnaipbieaaGreat
namespace Go.Proofs.YtcpjdjnaipbieaaGreat
open Go.RowKit Rgn
theorem Mb.ext5 {m n:Mb} (ha:m.a=n.a) (hb:m.b=n.b) (hc:m.c=n.c) (hd:m.d=n.d) (ht:m.t=n.t):m=n:=by
 cases m;cases n;simp_all
@[reducible] def Mb.st:Mb:=⟨⟨1,0⟩,⟨0,0⟩,⟨0,0⟩,⟨1,0⟩,false⟩
theorem st_is:Mb.mk (Cx.ofInt (1:Int) (0:Int)) ⟨0,0⟩ ⟨0,0⟩ (Cx.ofInt (1:Int) (0:Int)) false=Mb.st:=by decide +kernel
theorem nrm_times (c:Ci) {x:Rat} (h:x≠0):(c.times x).nrm=c.nrm:=by
 have z:∀ y:Rat,((y*x).num.sign == 0)=(y.num.sign == 0):=fun y=>by
  rw [Bool.eq_iff_iff,sgn_iff,sgn_iff,Rat.mul_eq_zero]
  exact ⟨fun g=>g.resolve_right h,.inl⟩
 have e1:(c.times x).piv=c.piv*x:=by
  show (if ((c.a*x).num.sign == 0)=true then (if ((c.b.re*x).num.sign == 0)=true then c.b.im*x else c.b.re*x) else c.a*x)=_
  rw [z,z]
  conv=>rhs;lhs;unfold Ci.piv
  split
  ·split<;>rfl
  ·rfl
 have e2:x*(c.piv*x)⁻¹=c.piv⁻¹:=by
  rw [Rat.inv_mul_rev,← Rat.mul_assoc,Rat.mul_inv_cancel _ h,Rat.one_mul]
 unfold Ci.nrm
 rw [e1]
 show Ci.mk (c.a*x*(c.piv*x)⁻¹) ⟨c.b.re*x*(c.piv*x)⁻¹,c.b.im*x*(c.piv*x)⁻¹⟩ (c.c*x*(c.piv*x)⁻¹)=Ci.mk (c.a*c.piv⁻¹) ⟨c.b.re*c.piv⁻¹,c.b.im*c.piv⁻¹⟩ (c.c*c.piv⁻¹)
 simp only [Rat.mul_assoc,e2]
theorem ci_ext {c d:Ci} (h1:c.a=d.a) (h2:c.b.re=d.b.re) (h3:c.b.im=d.b.im) (h4:c.c=d.c):c=d:=by
 obtain ⟨a,⟨b1,b2⟩,f⟩:=c
 obtain ⟨g,⟨e1,e2⟩,k⟩:=d
 simp_all
@[reducible] def Ci.duo (c d:Ci):Mb:=c.over.dot (Mb.cjM true d.over)
@[reducible] def Mb.adj (m:Mb):Mb:=Mb.cjM m.t ⟨m.d,m.b.neg,m.c.neg,m.a,m.t⟩
end Go.Proofs.YtcpjdjnaipbieaaGreat
namespace Go.Proofs.YtcpjdjnaipbieaaGreat
open Go.RowKit Rgn
set_option maxHeartbeats 4000000
theorem lnC_times (g h:Ci) (s t:Rat):lnC (g.times s) (h.times t)=(lnC g h).times (s*t):=by
 obtain ⟨A,⟨B1,B2⟩,C⟩:=g
 obtain ⟨a,⟨b1,b2⟩,c⟩:=h
 refine ci_ext ?_ ?_ ?_ ?_<;>simp only [lnC,m12,m20,m01,Ci.times,Cx.scale,Cx.add,Cx.mul,lnC_b]<;>grind
theorem im_times (c:Ci) (s:Rat) (n:Mb) (t:Bool):(c.times s).im n t=(c.im n t).times s:=by
 obtain ⟨A,⟨B1,B2⟩,C⟩:=c
 obtain ⟨⟨p1,p2⟩,⟨q1,q2⟩,⟨r1,r2⟩,⟨s1,s2⟩,u⟩:=n
 unfold Ci.im cjC Ci.at Ci.mid
 cases t<;>refine ci_ext ?_ ?_ ?_ ?_<;>simp only [Cx.mul,Cx.add,Cx.conj,Cx.norm,Cx.scale,Ci.times,if_true,Bool.false_eq_true,if_false]<;>grind
theorem pow_times (c:Ci) (s:Rat):(c.times s).pow=c.pow*(s*s):=by
 show (c.b.re*s)*(c.b.re*s)+(c.b.im*s)*(c.b.im*s)-c.a*s*(c.c*s)=(c.b.re*c.b.re+c.b.im*c.b.im-c.a*c.c)*(s*s)
 grind
theorem sq_pos {x:Rat} (h:x≠0):0<x*x:=by
 have h1:=sq_nn x
 have h2:x*x≠0:=fun e=>h ((Rat.mul_eq_zero.1 e).elim id id)
 grind
theorem pos_mul {c d:Ci} {y:Rat} (hy:0<y) (e:c.pow=d.pow*y):c.pos=d.pos:=by
 rw [Bool.eq_iff_iff,pos_iff,pos_iff,e]
 constructor
 ·intro h
  by_cases g:0<d.pow
  ·exact g
  ·have:=Rat.mul_nonneg (show 0≤-d.pow by grind) (show 0≤y by grind)
   grind
 ·exact fun h=>Rat.mul_pos h hy
theorem inv_nz {x:Rat} (h:x≠0):x⁻¹≠0:=fun g=>by
 have:=Rat.mul_inv_cancel _ h
 rw [g] at this;grind
theorem co_gen {c d K:Ci} {m:Mb} (hd:m.det.zero=false) (q1:c.pos=true) (q2:d.pos=true) (e:K=(m.undo.img (lnC (m.img c) (m.img d))).times (-1)) :
  K.pos=(lnC (rgI m c) (rgI m d)).pos∧(K.pos=true→(m.undo.img (lnC (rgI m c) (rgI m d))).nrm.nrm=K.nrm):=by
 have hs:=piv_ne (pos_flat (img_pos hd q1))
 have ht:=piv_ne (pos_flat (img_pos hd q2))
 have e1:rgI m c=(m.img c).times (m.img c).piv⁻¹:=rfl
 have e2:rgI m d=(m.img d).times (m.img d).piv⁻¹:=rfl
 have hz:(m.img c).piv⁻¹*(m.img d).piv⁻¹≠0:=fun g=>(Rat.mul_eq_zero.1 g).elim (inv_nz hs) (inv_nz ht)
 rw [e1,e2,lnC_times]
 generalize (m.img c).piv⁻¹*(m.img d).piv⁻¹=z at hz
 have e3:m.undo.img ((lnC (m.img c) (m.img d)).times z)=(m.undo.img (lnC (m.img c) (m.img d))).times z:=im_times _ _ _ _
 have hp:K.pos=((lnC (m.img c) (m.img d)).times z).pos:=by
  have n1:=norm_pos' (undo_det (undo_det hd))
  have p1:K.pow=(lnC (m.img c) (m.img d)).pow*m.undo.undo.det.norm:=by
   rw [e,pow_times]
   have:=im_pow (lnC (m.img c) (m.img d)) m.undo.undo m.undo.t
   unfold Mb.img at *
   rw [this];grind
  rw [pos_mul n1 p1,pos_mul (sq_pos hz) (pow_times _ z)]
 refine ⟨hp,fun hk=>?_⟩
 rw [e3,nrm_times _ hz]
 have e4:K.nrm=(m.undo.img (lnC (m.img c) (m.img d))).nrm:=by rw [e,nrm_times _ (by grind)]
 have hf:(m.undo.img (lnC (m.img c) (m.img d))).flat=false:=by
  refine pos_flat ?_
  have:K.pos=(m.undo.img (lnC (m.img c) (m.img d))).pos:=pos_mul (y:=(-1)*(-1)) (by grind) (by rw [e];exact pow_times _ _)
  rw [← this];exact hk
 rw [e4,nrm_nrm hf]
theorem nrm_c1 (a b d:Cx) (t:Bool):(Mb.mk a b ⟨1,0⟩ d t).nrm=⟨a,b,⟨1,0⟩,d,t⟩:=by
 have hp:(Mb.mk a b ⟨1,0⟩ d t).piv=⟨1,0⟩:=by unfold Mb.piv;rw [if_neg (by show ¬ (Cx.zero ⟨1,0⟩)=true;decide +kernel)]
 rw [nrm_by', hp,show Cx.inv ⟨1,0⟩=⟨1,0⟩ by decide +kernel]
 refine Mb.ext5 ?_ ?_ ?_ ?_ rfl<;>exact mul_one' _
@[reducible] def uF (p:Pn):Mb:=⟨p.z,⟨1,0⟩,⟨1,0⟩,⟨0,0⟩,false⟩
@[reducible] def tF (p:Pn):Mb:=⟨⟨0,0⟩,⟨1,0⟩,⟨1,0⟩,p.z.neg,false⟩
theorem oI:Cx.ofInt (1:Int) (0:Int)=⟨1,0⟩:=by decide +kernel
theorem oZ:Cx.ofInt (0:Int) (0:Int)=⟨0,0⟩:=by decide +kernel
theorem xF_t (p:Pn):xF p=tF p:=by rw [xF,oI,oZ]
theorem und (a d:Cx):(Mb.mk a ⟨1,0⟩ ⟨1,0⟩ d false).undo=⟨d.neg,⟨1,0⟩,⟨1,0⟩,a.neg,false⟩:=by
 have e:Mb.cjM false ⟨d,Cx.neg ⟨1,0⟩,Cx.neg ⟨1,0⟩,a,false⟩=(Mb.mk d.neg ⟨1,0⟩ ⟨1,0⟩ a.neg false).by ⟨-1,0⟩:=by
  obtain ⟨a1,a2⟩:=a
  obtain ⟨d1,d2⟩:=d
  refine Mb.ext5 (Cx.ext' ?_ ?_) (Cx.ext' ?_ ?_) (Cx.ext' ?_ ?_) (Cx.ext' ?_ ?_) rfl<;>simp only [Mb.cjM,cjC,Mb.by,Cx.neg,Cx.mul,Bool.false_eq_true,if_false]<;>grind
 show (Mb.cjM false ⟨d,Cx.neg ⟨1,0⟩,Cx.neg ⟨1,0⟩,a,false⟩).nrm=_
 rw [e,nrm_by (by decide +kernel),nrm_c1]
theorem neg_neg' (z:Cx):z.neg.neg=z:=Cx.ext' (by simp only [Cx.neg];grind) (by simp only [Cx.neg];grind)
theorem neg_0:Cx.neg ⟨0,0⟩=⟨0,0⟩:=by decide +kernel
theorem xF_u (p:Pn):(xF p).undo=uF p:=by rw [xF_t,und,neg_neg', neg_0]
theorem uF_u (p:Pn):(uF p).undo=tF p:=by rw [und,neg_0]
theorem xF_d (p:Pn):(xF p).det.zero=false:=by
 rw [xF_t]
 have:(tF p).det=⟨-1,0⟩:=by
  refine Cx.ext' ?_ ?_<;>simp only [Mb.det,Cx.mul,Cx.sub,Cx.neg]<;>grind
 rw [this];decide +kernel
theorem com_F (c d:Ci) (p:Pn) (h:p.inf=false):comK c d p=((xF p).undo.img (lnC ((xF p).img c) ((xF p).img d))).times (-1):=by
 have hh:Rat.divInt (1:Int) (2:Int)*2=1:=by decide +kernel
 unfold Mb.img
 rw [xF_u,uF_u]
 unfold comK thrR askR
 rw [h]
 obtain ⟨A,⟨B1,B2⟩,C⟩:=c
 obtain ⟨a,⟨b1,b2⟩,c⟩:=d
 obtain ⟨i,⟨x,y⟩⟩:=p
 unfold Ci.im cjC Ci.at Ci.mid
 refine ci_ext ?_ ?_ ?_ ?_<;>simp only [mnr,dt3,lnC,m12,m20,m01,Ci.times,Cx.scale,Cx.add,Cx.mul,Cx.conj,Cx.norm,Cx.neg,lnC_b,Bool.false_eq_true,if_false,show (((0:Int):Rat))=0 from rfl,show (((1:Int):Rat))=1 from rfl,show (((2:Int):Rat))=2 from rfl]<;>generalize Rat.divInt (1:Int) (2:Int)=k at*<;> grind
theorem xI_s:xI=Mb.st:=st_is
theorem st_u:Mb.st.undo=Mb.st:=by decide +kernel
theorem com_I (c d:Ci) (p:Pn) (h:p.inf=true):comK c d p=(xI.undo.img (lnC (xI.img c) (xI.img d))).times (-1):=by
 have hh:Rat.divInt (1:Int) (2:Int)*2=1:=by decide +kernel
 unfold Mb.img
 rw [xI_s,st_u,st_u]
 unfold comK thrR askR
 rw [h]
 obtain ⟨A,⟨B1,B2⟩,C⟩:=c
 obtain ⟨a,⟨b1,b2⟩,c⟩:=d
 unfold Ci.im cjC Ci.at Ci.mid
 refine ci_ext ?_ ?_ ?_ ?_<;>simp only [mnr,dt3,lnC,m12,m20,m01,Ci.times,Cx.scale,Cx.add,Cx.mul,Cx.conj,Cx.norm,Cx.neg,lnC_b,Bool.false_eq_true,if_false,show (((0:Int):Rat))=0 from rfl,show (((1:Int):Rat))=1 from rfl,show (((2:Int):Rat))=2 from rfl]<;>generalize Rat.divInt (1:Int) (2:Int)=k at*<;> grind
end Go.Proofs.YtcpjdjnaipbieaaGreat
