/- tracerylaw20.DiskTells returns true for any two disks and any point, and changes nothing that it was handed. No condition. -/
import Derived.Test.YtcpjdjnaipbieaaGreatP06
import Derived.ProofKit
import Derived.OpenShut
import Derived.JoinedCond
import Derived.Deep.Slices
import Derived.Deep.Strs
import Derived.Test.YtcpjdjnaipbieaaGreatRows
import Derived.WalkKit
import Derived.Below
import Derived.ChangeSame
import Derived.WideKeyArgs
import Derived.JoinedOf
import Derived.JoinedAt
set_option linter.unusedVariables false
set_option linter.unusedSimpArgs false
namespace Go.Proofs.YtcpjdjnaipbieaaGreat
open Go.RowKit Rgn Eng
set_option maxHeartbeats 8000000
set_option maxRecDepth 100000
variable {S:Nat→Prop} {W:World}
theorem edY (a:Ci) (p0:dsOk (rci a)=true):Calls Tryz.prog 80 #[ciV a] W (RetV (.tuple #[rciV (cicut a.rim.nrm),.int .i64 (cierr a.rim.nrm)]) W):=by
 have f0:=cifits_ht (dsOk_c p0).1
 have h1:=hc_conj a.b
 have h2:=rim_hs a
 refine Run.goP (S:=Z0) (Pack.nil.k (ciV a) (ciC a).toList (.s (.agg (ks 0 16)))) Tryz.func80 rfl ?_
 refine Run.cR (spRingC true) (fun _ _ _ H=>ePlateO a p0) ?_
 refine Run.cR spRing (fun _ _ _ H=>dsRim a (RingP.mk (H.f 0) (H.f 1) (H.f 2) (H.f 3)) (by omega)) ?_
 refine Run.cV ((rciC (cicut a.rim.nrm)).toList++[.int .i64 (cierr a.rim.nrm)]) (.tup [.agg (ks 0 16),.o (.k 16)]) (fun _ _ _ H=>rgTold a.rim (RingP.mk (H.f 4) (H.f 5) (H.f 6) (H.f 7)) (by omega) (by exact rim_flat p0)) ?_
 exact Run.rV rfl
theorem edN (a:RCi) (p0:dsOk a=false):Calls Tryz.prog 80 #[rciV a] W (RetV (.tuple #[rciV rzCi,.int .i64 2]) W):=by
 refine Run.goP (S:=Z0) (Pack.nil.k (rciV a) (rciC a).toList (.s (.agg (ks 0 16)))) Tryz.func80 rfl ?_
 refine Run.cR (spRingJC false) (fun _ _ _ H=>ePlateN a p0) ?_
 exact Run.rV rfl
theorem ouY (a:Ci) (p0:dsOk (rci a)=true):Calls Tryz.prog 81 #[ciV a] W (RetV (.tuple #[ciV a.out,.int .i64 0]) W):=by
 have f0:=cifits_ht (dsOk_c p0).1
 have h2:=out_hs a
 refine Run.goP (S:=Z0) (Pack.nil.k (ciV a) (ciC a).toList (.s (.agg (ks 0 16)))) Tryz.func81 rfl ?_
 refine Run.cR (spRingC true) (fun _ _ _ H=>ePlateO a p0) ?_
 refine Run.cR spRing (fun _ _ _ H=>dsOut a (RingP.mk (H.f 0) (H.f 1) (H.f 2) (H.f 3)) (by omega)) ?_
 refine Run.cV ((rciC (cicut a.out)).toList++[.int .i64 (cierr a.out)]) (.tup [.agg (ks 0 16),.o (.k 16)]) (fun _ _ _ H=>dsTold a.out (RingP.mk (H.f 4) (H.f 5) (H.f 6) (H.f 7)) (by omega)) ?_
 exact Run.rV ((ou_eq p0))
theorem ouN (a:RCi) (p0:dsOk a=false):Calls Tryz.prog 81 #[rciV a] W (RetV (.tuple #[rciV rzCi,.int .i64 2]) W):=by
 refine Run.goP (S:=Z0) (Pack.nil.k (rciV a) (rciC a).toList (.s (.agg (ks 0 16)))) Tryz.func81 rfl ?_
 refine Run.cR (spRingJC false) (fun _ _ _ H=>ePlateN a p0) ?_
 exact Run.rV rfl
theorem siY (a:Ci) (P:Pn) (p0:dsOk (rci a)=true) (p1:PnF P):Calls Tryz.prog 82 #[ciV a,rpnV (pnR P)] W (RetV (.tuple #[.int .i64 (a.rim.side P),.int .i64 0]) W):=by
 have f0:=cifits_ht (dsOk_c p0).1
 have h2:=rim_hs a
 have f3:=p1.ht
 refine Run.goP (S:=Z0) ((Pack.nil.k (ciV a) (ciC a).toList (.s (.agg (ks 0 16)))).k (rpnV (pnR P)) (rpnC (pnR P)).toList (.s (.agg (ks 0 9)))) Tryz.func82 rfl ?_
 refine Run.cR (spRingC true) (fun _ _ _ H=>ePlateO a p0) ?_
 refine Run.cR (spPlaceC true) (fun _ _ _ H=>eSpotP P p1) ?_
 refine Run.dr ?_
 refine RunD.cR spRing (fun _ _ _ H=>dsRim a (RingP.mk (H.f 0) (H.f 1) (H.f 2) (H.f 3)) (by omega)) ?_
 refine RunD.cV [.int .i64 (a.rim.side P)] kb (fun _ _ _ H=>rgSide a.rim P (RingP.mk (H.f 6) (H.f 7) (H.f 8) (H.f 9)) (PlaceP.mk (H.f 4) (H.f 5)) (by omega)) ?_
 refine RunD.en ?_
 exact Run.rV rfl
theorem siN (a:RCi) (p:RPn) (p0:dsOk a=false):Calls Tryz.prog 82 #[rciV a,rpnV p] W (RetV (.tuple #[.int .i64 0,.int .i64 2]) W):=by
 refine Run.goP (S:=Z0) ((Pack.nil.k (rciV a) (rciC a).toList (.s (.agg (ks 0 16)))).k (rpnV p) (rpnC p).toList (.s (.agg (ks 0 9)))) Tryz.func82 rfl ?_
 refine Run.cR (spRingJC false) (fun _ _ _ H=>ePlateN a p0) ?_
 refine Run.cR spPlaceJK (fun _ _ _ H=>eSpotJ p) ?_
 exact Run.rV rfl
theorem siM (a:Ci) (p:RPn) (p0:dsOk (rci a)=true) (p1:pnOk p=false):Calls Tryz.prog 82 #[ciV a,rpnV p] W (RetV (.tuple #[.int .i64 0,.int .i64 2]) W):=by
 refine Run.goP (S:=Z0) ((Pack.nil.k (ciV a) (ciC a).toList (.s (.agg (ks 0 16)))).k (rpnV p) (rpnC p).toList (.s (.agg (ks 0 9)))) Tryz.func82 rfl ?_
 refine Run.cR (spRingC true) (fun _ _ _ H=>ePlateO a p0) ?_
 refine Run.cR spPlaceJK (fun _ _ _ H=>eSpotJ p) ?_
 refine Run.kn p1 ?_
 exact Run.rV rfl
theorem pr0 (a:RCi) (b:RCi) (p0:dsOk a=false):Calls Tryz.prog 83 #[rciV a,rciV b] W (RetV (.tuple #[rfV rz.re,.int .i64 2]) W):=by
 refine Run.goP (S:=Z0) ((Pack.nil.k (rciV a) (rciC a).toList (.s (.agg (ks 0 16)))).k (rciV b) (rciC b).toList (.s (.agg (ks 0 16)))) Tryz.func83 rfl ?_
 refine Run.cV [] (.tup [.o (.c (.slice none 0 0)),.o (.c (.bool false))]) (fun _ _ _ H=>pl20 29 a b (H.b 3) p0) ?_
 exact Run.rV rfl
theorem pr1 (a:Ci) (b:RCi) (p0:dsOk (rci a)=true) (p1:dsOk b=false):Calls Tryz.prog 83 #[ciV a,rciV b] W (RetV (.tuple #[rfV rz.re,.int .i64 2]) W):=by
 refine Run.goP (S:=Z0) ((Pack.nil.k (ciV a) (ciC a).toList (.s (.agg (ks 0 16)))).k (rciV b) (rciC b).toList (.s (.agg (ks 0 16)))) Tryz.func83 rfl ?_
 refine Run.cV [] (.tup [.o (.c (.slice none 0 0)),.o (.c (.bool false))]) (fun _ _ _ H=>pl21 29 a b (H.b 3) p0 p1) ?_
 exact Run.rV rfl
theorem ap0 (a:RCi) (b:RCi) (p0:dsOk a=false):Calls Tryz.prog 84 #[rciV a,rciV b] W (RetV (.tuple #[.bool false,.int .i64 2]) W):=by
 refine Run.goP (S:=Z0) ((Pack.nil.k (rciV a) (rciC a).toList (.s (.agg (ks 0 16)))).k (rciV b) (rciC b).toList (.s (.agg (ks 0 16)))) Tryz.func84 rfl ?_
 refine Run.cV [] (.tup [.o (.c (.slice none 0 0)),.o (.c (.bool false))]) (fun _ _ _ H=>pl20 29 a b (H.b 2) p0) ?_
 exact Run.rV rfl
theorem ap1 (a:Ci) (b:RCi) (p0:dsOk (rci a)=true) (p1:dsOk b=false):Calls Tryz.prog 84 #[ciV a,rciV b] W (RetV (.tuple #[.bool false,.int .i64 2]) W):=by
 refine Run.goP (S:=Z0) ((Pack.nil.k (ciV a) (ciC a).toList (.s (.agg (ks 0 16)))).k (rciV b) (rciC b).toList (.s (.agg (ks 0 16)))) Tryz.func84 rfl ?_
 refine Run.cV [] (.tup [.o (.c (.slice none 0 0)),.o (.c (.bool false))]) (fun _ _ _ H=>pl21 29 a b (H.b 2) p0 p1) ?_
 exact Run.rV rfl
theorem ki0 (a:RCi) (b:RCi) (p0:dsOk a=false):Calls Tryz.prog 85 #[rciV a,rciV b] W (RetV (.tuple #[rpnV rzPn,.int .i64 2]) W):=by
 refine Run.goP (S:=Z0) ((Pack.nil.k (rciV a) (rciC a).toList (.s (.agg (ks 0 16)))).k (rciV b) (rciC b).toList (.s (.agg (ks 0 16)))) Tryz.func85 rfl ?_
 refine Run.cV [] (.tup [.o (.c (.slice none 0 0)),.o (.c (.bool false))]) (fun _ _ _ H=>pl20 29 a b (H.b 3) p0) ?_
 exact Run.rV rfl
theorem ki1 (a:Ci) (b:RCi) (p0:dsOk (rci a)=true) (p1:dsOk b=false):Calls Tryz.prog 85 #[ciV a,rciV b] W (RetV (.tuple #[rpnV rzPn,.int .i64 2]) W):=by
 refine Run.goP (S:=Z0) ((Pack.nil.k (ciV a) (ciC a).toList (.s (.agg (ks 0 16)))).k (rciV b) (rciC b).toList (.s (.agg (ks 0 16)))) Tryz.func85 rfl ?_
 refine Run.cV [] (.tup [.o (.c (.slice none 0 0)),.o (.c (.bool false))]) (fun _ _ _ H=>pl21 29 a b (H.b 3) p0 p1) ?_
 exact Run.rV rfl
theorem to0 {b0:Nat} (T0:TypeId) (a:RCi) (b:RCi) (B0:W.heap[b0]? = some (.cells (⟨(rciC a).toList++((rciC b).toList)⟩) T0 (0,0))) (p0:dsOk a=false):Calls Tryz.prog 53 #[.slice (some ⟨b0,0,none⟩) 2 2] W (RetV (.tuple #[.bool false,.int .i64 2]) W):=by
 refine Run.goP (S:=Z0) (Pack.nil.b B0 (some 2) 32) Tryz.func53 rfl ?_
 refine Run.cV [] (.tup [.o (.c (.slice none 0 0)),.o (.c (.bool false))]) (fun _ _ _ H=>pl20 T0 a b (H.b 0) p0) ?_
 exact Run.rV rfl
theorem to1 {b0:Nat} (T0:TypeId) (a:Ci) (b:RCi) (B0:W.heap[b0]? = some (.cells (⟨(ciC a).toList++((rciC b).toList)⟩) T0 (0,0))) (p0:dsOk (rci a)=true) (p1:dsOk b=false):Calls Tryz.prog 53 #[.slice (some ⟨b0,0,none⟩) 2 2] W (RetV (.tuple #[.bool false,.int .i64 2]) W):=by
 refine Run.goP (S:=Z0) (Pack.nil.b B0 (some 2) 32) Tryz.func53 rfl ?_
 refine Run.cV [] (.tup [.o (.c (.slice none 0 0)),.o (.c (.bool false))]) (fun _ _ _ H=>pl21 T0 a b (H.b 0) p0 p1) ?_
 exact Run.rV rfl
theorem toY {b0:Nat} (T0:TypeId) (a:Ci) (b:Ci) (B0:W.heap[b0]? = some (.cells (⟨(ciC a).toList++((ciC b).toList)⟩) T0 (0,0))) (p0:dsOk (rci a)=true) (p1:dsOk (rci b)=true):Calls Tryz.prog 53 #[.slice (some ⟨b0,0,none⟩) 2 2] W (RetV (.tuple #[.bool (a.touch b),.int .i64 0]) W):=by
 have f0:=cifits_ht (dsOk_c p0).1
 have f1:=cifits_ht (dsOk_c p1).1
 refine Run.goP (S:=Z0) (Pack.nil.b B0 (some 2) 32) Tryz.func53 rfl ?_
 refine Run.cB (n:=2) (T:=180) (φs:=ringF [a,b]) (fun _ _ _ H=>pl2Y T0 a b (H.b 0) p0 p1) (fun cp1=>?_)
 refine Run.cV [.bool ([b.touch a].all id)] kb (fun _ _ _ H=>tch2 cp1 a b (H.br 1) (RingP.mk (H.f 0) (H.f 1) (H.f 2) (H.f 3)) (RingP.mk (H.f 4) (H.f 5) (H.f 6) (H.f 7)) (by omega)) ?_
 exact Run.rV ((to_eq a b))
theorem apY (a:Ci) (b:Ci) (p0:dsOk (rci a)=true) (p1:dsOk (rci b)=true):Calls Tryz.prog 84 #[ciV a,ciV b] W (RetV (.tuple #[.bool (a.apt b),.int .i64 0]) W):=by
 have f0:=cifits_ht (dsOk_c p0).1
 have f1:=cifits_ht (dsOk_c p1).1
 have h1:=dot_ht a b
 have h2:=plus_ht a b
 have z2:ht (Rat.divInt (1:Int) (1:Int))=2:=by decide
 refine Run.goP (S:=Z0) ((Pack.nil.k (ciV a) (ciC a).toList (.s (.agg (ks 0 16)))).k (ciV b) (ciC b).toList (.s (.agg (ks 0 16)))) Tryz.func84 rfl ?_
 refine Run.cB (n:=2) (T:=180) (φs:=ringF [a,b]) (fun _ _ _ H=>pl2Y 29 a b (H.b 2) p0 p1) (fun cp1=>?_)
 refine Run.dr ?_
 refine RunD.cR spRing (fun _ _ _ H=>dsPlus a b (RingP.mk (H.f 0) (H.f 1) (H.f 2) (H.f 3)) (RingP.mk (H.f 4) (H.f 5) (H.f 6) (H.f 7)) (by omega)) ?_
 refine RunD.en ?_
 refine (Bool.eq_false_or_eq_true (decide (0≤(icmp ((a.dot b).num*((Rat.divInt 1 1).den:Int)) ((Rat.divInt 1 1).num*((a.dot b).den:Int)))))).elim (fun c1=>?_) (fun c1=>?_)
 · refine (Bool.eq_false_or_eq_true (decide (0≤(((a.plus b).a).num.sign)))).elim (fun c2=>?_) (fun c2=>?_)
   · refine Run.dr ?_
     refine RunD.cR spRat (fun _ _ _ H=>dsBy a b (RingP.mk (H.f 0) (H.f 1) (H.f 2) (H.f 3)) (RingP.mk (H.f 4) (H.f 5) (H.f 6) (H.f 7)) (by omega)) ?_
     refine RunD.cR spRat (fun _ _ _ H=>qNewRat 1 1 (by decide) (by decide) (by decide) (by decide) (by decide)) ?_
     refine RunD.cV [.int .i64 (icmp ((a.dot b).num*((Rat.divInt 1 1).den:Int)) ((Rat.divInt 1 1).num*((a.dot b).den:Int)))] kb (fun _ _ _ H=>qCmp (a.dot b) (Rat.divInt 1 1) (H.f 12) (H.f 13) (by omega)) ?_
     refine RunD.bi [] (cb true) (fun _ _ _ o1 o2 _ ho hx hy=>ex_icmp .geq 3 (icmp ((a.dot b).num*((Rat.divInt 1 1).den:Int)) ((Rat.divInt 1 1).num*((a.dot b).den:Int))) 0 (kk:=.i64) rfl ho hx hy) ?_ (hV:=fun _ _=>congrArg Value.bool c1)
     refine RunD.cV [.int .i64 (((a.plus b).a).num.sign)] kb (fun _ _ _ H=>qSign ((a.plus b).a) (H.f 8)) ?_
     refine RunD.bi [] (cb true) (fun _ _ _ o1 o2 _ ho hx hy=>ex_icmp .geq 3 (((a.plus b).a).num.sign) 0 (kk:=.i64) rfl ho hx hy) ?_ (hV:=fun _ _=>congrArg Value.bool c2)
     refine RunD.cV [.int .i64 (((a.plus b).c).num.sign)] kb (fun _ _ _ H=>qSign ((a.plus b).c) (H.f 11)) ?_
     refine RunD.bi [.bool (decide (0≤(((a.plus b).c).num.sign)))] kb (fun _ _ _ o1 o2 _ ho hx hy=>ex_icmp .geq 3 (((a.plus b).c).num.sign) 0 (kk:=.i64) rfl ho hx hy) ?_
     refine RunD.en ?_
     exact Run.rV ((apV (ap_2 c1 c2)))
   · refine Run.dr ?_
     refine RunD.cR spRat (fun _ _ _ H=>dsBy a b (RingP.mk (H.f 0) (H.f 1) (H.f 2) (H.f 3)) (RingP.mk (H.f 4) (H.f 5) (H.f 6) (H.f 7)) (by omega)) ?_
     refine RunD.cR spRat (fun _ _ _ H=>qNewRat 1 1 (by decide) (by decide) (by decide) (by decide) (by decide)) ?_
     refine RunD.cV [.int .i64 (icmp ((a.dot b).num*((Rat.divInt 1 1).den:Int)) ((Rat.divInt 1 1).num*((a.dot b).den:Int)))] kb (fun _ _ _ H=>qCmp (a.dot b) (Rat.divInt 1 1) (H.f 12) (H.f 13) (by omega)) ?_
     refine RunD.bi [] (cb true) (fun _ _ _ o1 o2 _ ho hx hy=>ex_icmp .geq 3 (icmp ((a.dot b).num*((Rat.divInt 1 1).den:Int)) ((Rat.divInt 1 1).num*((a.dot b).den:Int))) 0 (kk:=.i64) rfl ho hx hy) ?_ (hV:=fun _ _=>congrArg Value.bool c1)
     refine RunD.cV [.int .i64 (((a.plus b).a).num.sign)] kb (fun _ _ _ H=>qSign ((a.plus b).a) (H.f 8)) ?_
     refine RunD.bi [] (cb false) (fun _ _ _ o1 o2 _ ho hx hy=>ex_icmp .geq 3 (((a.plus b).a).num.sign) 0 (kk:=.i64) rfl ho hx hy) ?_ (hV:=fun _ _=>congrArg Value.bool c2)
     refine RunD.en ?_
     exact Run.rV ((apV (ap_1 c1 c2)))
 · refine Run.dr ?_
   refine RunD.cR spRat (fun _ _ _ H=>dsBy a b (RingP.mk (H.f 0) (H.f 1) (H.f 2) (H.f 3)) (RingP.mk (H.f 4) (H.f 5) (H.f 6) (H.f 7)) (by omega)) ?_
   refine RunD.cR spRat (fun _ _ _ H=>qNewRat 1 1 (by decide) (by decide) (by decide) (by decide) (by decide)) ?_
   refine RunD.cV [.int .i64 (icmp ((a.dot b).num*((Rat.divInt 1 1).den:Int)) ((Rat.divInt 1 1).num*((a.dot b).den:Int)))] kb (fun _ _ _ H=>qCmp (a.dot b) (Rat.divInt 1 1) (H.f 12) (H.f 13) (by omega)) ?_
   refine RunD.bi [] (cb false) (fun _ _ _ o1 o2 _ ho hx hy=>ex_icmp .geq 3 (icmp ((a.dot b).num*((Rat.divInt 1 1).den:Int)) ((Rat.divInt 1 1).num*((a.dot b).den:Int))) 0 (kk:=.i64) rfl ho hx hy) ?_ (hV:=fun _ _=>congrArg Value.bool c1)
   refine RunD.en ?_
   exact Run.rV ((apV (ap_0 c1)))
theorem kiF (a:Ci) (b:Ci) (p0:dsOk (rci a)=true) (p1:dsOk (rci b)=true) (p2:a.touch b=false):Calls Tryz.prog 85 #[ciV a,ciV b] W (RetV (.tuple #[rpnV rzPn,.int .i64 300]) W):=by
 have f0:=cifits_ht (dsOk_c p0).1
 have f1:=cifits_ht (dsOk_c p1).1
 refine Run.goP (S:=Z0) ((Pack.nil.k (ciV a) (ciC a).toList (.s (.agg (ks 0 16)))).k (ciV b) (ciC b).toList (.s (.agg (ks 0 16)))) Tryz.func85 rfl ?_
 refine Run.cB (n:=2) (T:=180) (φs:=ringF [a,b]) (fun _ _ _ H=>pl2Y 29 a b (H.b 3) p0 p1) (fun cp1=>?_)
 refine Run.cV [.bool ([b.touch a].all id)] kb (fun _ _ _ H=>tch2 cp1 a b (H.br 4) (RingP.mk (H.f 0) (H.f 1) (H.f 2) (H.f 3)) (RingP.mk (H.f 4) (H.f 5) (H.f 6) (H.f 7)) (by omega)) ?_
 refine Run.kn (tch_f p2) ?_
 exact Run.rV rfl
theorem kiT (a:Ci) (b:Ci) (p0:dsOk (rci a)=true) (p1:dsOk (rci b)=true) (p2:a.touch b=true):Calls Tryz.prog 85 #[ciV a,ciV b] W (RetV (.tuple #[rpnV (pncut (a.kis b)),.int .i64 (pnerr (a.kis b))]) W):=by
 have f0:=cifits_ht (dsOk_c p0).1
 have f1:=cifits_ht (dsOk_c p1).1
 have h2:=plus_ht a b
 have h3:=ht_inv (a.plus b).a
 have h4:=hc_scale (a.plus b).b (a.plus b).a⁻¹
 have k0:=hc_scale ((a.plus b).b) (((a.plus b).a)⁻¹)
 refine Run.goP (S:=Z0) ((Pack.nil.k (ciV a) (ciC a).toList (.s (.agg (ks 0 16)))).k (ciV b) (ciC b).toList (.s (.agg (ks 0 16)))) Tryz.func85 rfl ?_
 refine Run.cB (n:=2) (T:=180) (φs:=ringF [a,b]) (fun _ _ _ H=>pl2Y 29 a b (H.b 3) p0 p1) (fun cp1=>?_)
 refine Run.cV [.bool ([b.touch a].all id)] kb (fun _ _ _ H=>tch2 cp1 a b (H.br 4) (RingP.mk (H.f 0) (H.f 1) (H.f 2) (H.f 3)) (RingP.mk (H.f 4) (H.f 5) (H.f 6) (H.f 7)) (by first|omega|(dsimp only at *;omega)|exact sgn_no _)) ?_
 refine Run.kn (tch_t p2) ?_
 refine Run.dr ?_
 refine RunD.cR spRing (fun _ _ _ H=>dsPlus a b (RingP.mk (H.f 0) (H.f 1) (H.f 2) (H.f 3)) (RingP.mk (H.f 4) (H.f 5) (H.f 6) (H.f 7)) (by first|omega|(dsimp only at *;omega)|exact sgn_no _)) ?_
 refine RunD.en ?_
 refine Run.cV [.int .i64 (((a.plus b).a).num.sign)] kb (fun _ _ _ H=>qSign ((a.plus b).a) (H.f 8)) ?_
 refine Run.ic (((a.plus b).a).num.sign) 0 ((((a.plus b).a).num.sign) == 0) ?_
 refine (Bool.eq_false_or_eq_true ((((a.plus b).a).num.sign) == 0)).elim (fun c1=>?_) (fun c1=>?_)
 · refine Run.kn c1 ?_
   exact Run.rV (ki_1 c1)
 · refine Run.kn c1 ?_
   refine Run.dr ?_
   refine RunD.cO 6 softRat (fun _ _ _ H=>qInv ((a.plus b).a) (RatP.blk (H.oz 6)) (anyV (H.f 8)) (by first|omega|(dsimp only at *;omega)|exact sgn_no c1) (by first|omega|(dsimp only at *;omega)|exact sgn_no c1)) ?_
   refine RunD.cRs [6] spNum (fun _ _ _ H=>eScale ((a.plus b).b) (((a.plus b).a)⁻¹) (NumP.mk (H.f 9) (H.f 10)) (RatP.n (H.s 6)) (by first|omega|(dsimp only at *;omega)|exact sgn_no c1)) ?_
   refine RunD.cV ((rpnC (pncut (Pn.mk false (((a.plus b).b).scale (((a.plus b).a)⁻¹))))).toList++[.int .i64 (pnerr (Pn.mk false (((a.plus b).b).scale (((a.plus b).a)⁻¹))))]) (.tup [.agg (ks 0 9),.o (.k 9)]) (fun _ _ _ H=>plTold (Pn.mk false (((a.plus b).b).scale (((a.plus b).a)⁻¹))) (PlaceP.mk (H.f 13) (H.f 14)) (by first|omega|(dsimp only at *;omega)|exact sgn_no c1)) ?_
   refine RunD.en ?_
   exact Run.rV (ki_0 c1)
theorem dkcO (a:Ci) (p0:dsOk (rci a)=true):Calls Tryz.prog 86 #[ciV a] W (RetV (.int .i64 0) W):=by
 refine Run.goP (S:=Z0) (Pack.nil.k (ciV a) (ciC a).toList (.s (.agg (ks 0 16)))) Tryz.func86 rfl ?_
 refine Run.cR (spRingC true) (fun _ _ _ H=>ePlateO a p0) ?_
 exact Run.rV rfl
theorem dkcN (a:RCi) (p0:dsOk a=false):Calls Tryz.prog 86 #[rciV a] W (RetV (.int .i64 2) W):=by
 refine Run.goP (S:=Z0) (Pack.nil.k (rciV a) (rciC a).toList (.s (.agg (ks 0 16)))) Tryz.func86 rfl ?_
 refine Run.cR (spRingJC false) (fun _ _ _ H=>ePlateN a p0) ?_
 exact Run.rV rfl
theorem rdEdge (a:Ci) (p0:ht a.a+ht a.b.re+ht a.b.im+ht a.c≤40000) (p1:a.rim.flat=false):Calls Tryz.prog 87 #[ciV a] W (RetV (ciV a.rim.nrm) W):=by
 have h1:=hc_conj a.b
 have h2:=rim_hs a
 have k0:=hc_conj a.b
 have k1:=hc_neg a.b.conj
 refine Run.goP (S:=Z0) (Pack.nil.k (ciV a) (ciC a).toList (.s (.agg (ks 0 16)))) Tryz.func87 rfl ?_
 refine Run.dr ?_
 refine RunD.cV (gC a.b.conj).toList (.s (.agg (ks 0 8))) (fun _ _ _ H=>cConj a.b) ?_
 refine RunD.cV (gC a.b.conj.neg).toList (.s (.agg (ks 0 8))) (fun _ _ _ H=>cNeg a.b.conj) ?_
 refine RunD.cV (ciC ((Ci.mk a.a a.b.conj.neg a.c).nrm)).toList (.s (.agg (ks 0 16))) (fun _ _ _ H=>c11Norm a.a a.b.conj.neg a.c (by first|exact p1|omega|(dsimp only at *;omega)) (by first|exact p1|omega|(dsimp only at *;omega))) ?_
 refine RunD.en ?_
 exact Run.rV rfl
theorem rdSc (z:Cx) (x:Rat) (p0:ht z.re+ht z.im+ht x≤67108864):Calls Tryz.prog 180 #[gV z,fV x] W (RetV (gV (z.scale x)) W):=by
 have k0:=ht_mul z.re x
 have k1:=ht_mul z.im x
 refine Run.goP (S:=Z0) ((Pack.nil.k (gV z) (gC z).toList (.s (.agg (ks 0 8)))).k (fV x) (fC x).toList (.s (.agg (ks 0 4)))) Tryz.func180 rfl ?_
 refine Run.dr ?_
 refine RunD.cV (fC (z.re*x)).toList (.s (.agg (ks 0 4))) (fun _ _ _ H=>fTimes z.re x (by omega)) ?_
 refine RunD.cV (fC (z.im*x)).toList (.s (.agg (ks 0 4))) (fun _ _ _ H=>fTimes z.im x (by omega)) ?_
 refine RunD.en ?_
 exact Run.rV rfl
theorem rdApt (a:Ci) (b:Ci) (p0:ht a.a+ht a.b.re+ht a.b.im+ht a.c≤5000000) (p1:ht b.a+ht b.b.re+ht b.b.im+ht b.c≤5000000):Calls Tryz.prog 95 #[ciV a,ciV b] W (RetV (.bool (a.apt b)) W):=by
 have h1:=dot_ht a b
 have h2:=plus_ht a b
 have h3:=ht_add a.a b.a
 have h4:=ht_add a.c b.c
 have z2:ht (1:Rat)=2:=by decide
 have k0:=ht_add a.a b.a
 have k1:=ht_add a.c b.c
 refine Run.goP (S:=Z0) ((Pack.nil.k (ciV a) (ciC a).toList (.s (.agg (ks 0 16)))).k (ciV b) (ciC b).toList (.s (.agg (ks 0 16)))) Tryz.func95 rfl ?_
 refine Run.cV (fC (a.dot b)).toList (.s (.agg (ks 0 4))) (fun _ _ _ H=>rdProd a b p0 p1) ?_
 refine Run.cV (fC (1:Rat)).toList (.s (.agg (ks 0 4))) (fun _ _ _ H=>fInt 1 (by decide) (by decide)) ?_
 refine Run.cV [.int .i64 (icmp ((a.dot b).num*((1:Rat).den:Int)) ((1:Rat).num*((a.dot b).den:Int)))] kb (fun _ _ _ H=>fCmp (a.dot b) (1:Rat) (by omega)) ?_
 refine Run.ic (icmp ((a.dot b).num*((1:Rat).den:Int)) ((1:Rat).num*((a.dot b).den:Int))) 0 (decide (0≤(icmp ((a.dot b).num*((1:Rat).den:Int)) ((1:Rat).num*((a.dot b).den:Int))))) ?_
 refine (Bool.eq_false_or_eq_true (decide (0≤(icmp ((a.dot b).num*((1:Rat).den:Int)) ((1:Rat).num*((a.dot b).den:Int)))))).elim (fun c1=>?_) (fun c1=>?_)
 · refine Run.kn c1 ?_
   refine Run.cV (fC (a.a+b.a)).toList (.s (.agg (ks 0 4))) (fun _ _ _ H=>fPlus a.a b.a (by omega)) ?_
   refine Run.cV [.int .i64 ((a.a+b.a).num.sign)] kb (fun _ _ _ H=>fSign (a.a+b.a)) ?_
   refine Run.ic ((a.a+b.a).num.sign) 0 (decide (0≤((a.a+b.a).num.sign))) ?_
   refine (Bool.eq_false_or_eq_true (decide (0≤((a.a+b.a).num.sign)))).elim (fun c2=>?_) (fun c2=>?_)
   · refine Run.kn c2 ?_
     refine Run.cV (fC (a.c+b.c)).toList (.s (.agg (ks 0 4))) (fun _ _ _ H=>fPlus a.c b.c (by omega)) ?_
     refine Run.cV [.int .i64 ((a.c+b.c).num.sign)] kb (fun _ _ _ H=>fSign (a.c+b.c)) ?_
     refine Run.ic ((a.c+b.c).num.sign) 0 (decide (0≤((a.c+b.c).num.sign))) ?_
     exact Run.rV ((congrArg Value.bool (rap_2 c1 c2)))
   · refine Run.kn c2 ?_
     exact Run.rV ((congrArg Value.bool (rap_1 c1 c2)))
 · refine Run.kn c1 ?_
   exact Run.rV ((congrArg Value.bool (rap_0 c1)))
theorem rdKiss (a:Ci) (b:Ci) (p0:ht a.a+ht a.b.re+ht a.b.im+ht a.c≤5000000) (p1:ht b.a+ht b.b.re+ht b.b.im+ht b.c≤5000000):Calls Tryz.prog 96 #[ciV a,ciV b] W (RetV (rpnV (pnR (a.kis b))) W):=by
 have h2:=plus_ht a b
 have h3:=ht_inv (a.plus b).a
 have z2:ht (1:Rat)=2:=by decide
 have h4:=ht_div 1 (a.plus b).a
 have k0:=ht_div (1:Rat) ((a.plus b).a)
 refine Run.goP (S:=Z0) ((Pack.nil.k (ciV a) (ciC a).toList (.s (.agg (ks 0 16)))).k (ciV b) (ciC b).toList (.s (.agg (ks 0 16)))) Tryz.func96 rfl ?_
 refine Run.cV (ciC (a.plus b)).toList (.s (.agg (ks 0 16))) (fun _ _ _ H=>rdPlus a b (by first|omega|(dsimp only at *;omega)|exact sgn_no _)) ?_
 refine Run.cV [.int .i64 (((a.plus b).a).num.sign)] kb (fun _ _ _ H=>fSign ((a.plus b).a)) ?_
 refine Run.ic (((a.plus b).a).num.sign) 0 ((((a.plus b).a).num.sign) == 0) ?_
 refine (Bool.eq_false_or_eq_true ((((a.plus b).a).num.sign) == 0)).elim (fun c1=>?_) (fun c1=>?_)
 · refine Run.kn c1 ?_
   exact Run.rV (rk_1 c1)
 · refine Run.kn c1 ?_
   refine Run.dr ?_
   refine RunD.cV (fC (1:Rat)).toList (.s (.agg (ks 0 4))) (fun _ _ _ H=>fInt 1 (by decide) (by decide)) ?_
   refine RunD.cV (fC ((1:Rat)/((a.plus b).a))).toList (.s (.agg (ks 0 4))) (fun _ _ _ H=>fOver (1:Rat) ((a.plus b).a) (by first|omega|(dsimp only at *;omega)|exact sgn_no c1) (by first|omega|(dsimp only at *;omega)|exact sgn_no c1)) ?_
   refine RunD.cV (gC (((a.plus b).b).scale ((1:Rat)/((a.plus b).a)))).toList (.s (.agg (ks 0 8))) (fun _ _ _ H=>rdSc ((a.plus b).b) ((1:Rat)/((a.plus b).a)) (by first|omega|(dsimp only at *;omega)|exact sgn_no c1)) ?_
   refine RunD.en ?_
   exact Run.rV (rk_0 c1)
theorem rdSiI (a:Ci):Calls Tryz.prog 91 #[ciV a,rpnV (RPn.mk true rz)] W (RetV (.int .i64 a.a.num.sign) W):=by
 refine Run.goP (S:=Z0) ((Pack.nil.k (ciV a) (ciC a).toList (.s (.agg (ks 0 16)))).k (rpnV (RPn.mk true rz)) (rpnC (RPn.mk true rz)).toList (.s (.agg (ks 0 9)))) Tryz.func91 rfl ?_
 refine Run.kn (b:=true) rfl ?_
 refine Run.cV [.int .i64 a.a.num.sign] kb (fun _ _ _ H=>fSign a.a) ?_
 exact Run.rV rfl
theorem rdSiZ (z:Cx) (a:Ci) (p0:ht a.a+ht a.b.re+ht a.b.im+ht a.c+(ht z.re+ht z.im)≤1000000):Calls Tryz.prog 91 #[ciV a,pnV (Pn.mk false z)] W (RetV (.int .i64 ((a.rim.val z).num.sign)) W):=by
 have k0:=hc_norm z
 have k1:=ht_mul a.a z.norm
 have k2:=hc_conj a.b
 have k3:=hc_mul a.b.conj z
 have k4:=ht_add ((a.b.conj.mul z).re) ((a.b.conj.mul z).re)
 have k5:=ht_sub (a.a*z.norm) (((a.b.conj.mul z).re)+((a.b.conj.mul z).re))
 have k6:=ht_add ((a.a*z.norm)-(((a.b.conj.mul z).re)+((a.b.conj.mul z).re))) a.c
 refine Run.goP (S:=Z0) ((Pack.nil.k (ciV a) (ciC a).toList (.s (.agg (ks 0 16)))).k (pnV (Pn.mk false z)) (pnC (Pn.mk false z)).toList (.s (.agg (ks 0 9)))) Tryz.func91 rfl ?_
 refine Run.kn (b:=false) rfl ?_
 refine Run.dr ?_
 refine RunD.cV (fC z.norm).toList (.s (.agg (ks 0 4))) (fun _ _ _ H=>cNorm z (by omega)) ?_
 refine RunD.cV (fC (a.a*z.norm)).toList (.s (.agg (ks 0 4))) (fun _ _ _ H=>fTimes a.a z.norm (by omega)) ?_
 refine RunD.en ?_
 refine Run.dr ?_
 refine RunD.cV (gC a.b.conj).toList (.s (.agg (ks 0 8))) (fun _ _ _ H=>cConj a.b) ?_
 refine RunD.cV (gC (a.b.conj.mul z)).toList (.s (.agg (ks 0 8))) (fun _ _ _ H=>cTimes a.b.conj z (by omega)) ?_
 refine RunD.en ?_
 refine Run.dr ?_
 refine RunD.cV (fC (((a.b.conj.mul z).re)+((a.b.conj.mul z).re))).toList (.s (.agg (ks 0 4))) (fun _ _ _ H=>fPlus ((a.b.conj.mul z).re) ((a.b.conj.mul z).re) (by omega)) ?_
 refine RunD.cV (fC ((a.a*z.norm)-(((a.b.conj.mul z).re)+((a.b.conj.mul z).re)))).toList (.s (.agg (ks 0 4))) (fun _ _ _ H=>fMinus (a.a*z.norm) (((a.b.conj.mul z).re)+((a.b.conj.mul z).re)) (by omega)) ?_
 refine RunD.cV (fC (((a.a*z.norm)-(((a.b.conj.mul z).re)+((a.b.conj.mul z).re)))+a.c)).toList (.s (.agg (ks 0 4))) (fun _ _ _ H=>fPlus ((a.a*z.norm)-(((a.b.conj.mul z).re)+((a.b.conj.mul z).re))) a.c (by omega)) ?_
 refine RunD.cV [.int .i64 ((((a.a*z.norm)-(((a.b.conj.mul z).re)+((a.b.conj.mul z).re)))+a.c).num.sign)] kb (fun _ _ _ H=>fSign (((a.a*z.norm)-(((a.b.conj.mul z).re)+((a.b.conj.mul z).re)))+a.c)) ?_
 refine RunD.en ?_
 exact Run.rV ((congrArg (Value.int .i64) (rdSi_eq a z)))
end Go.Proofs.YtcpjdjnaipbieaaGreat
namespace Go.Proofs.YtcpjdjnaipbieaaGreat
open Go.RowKit Rgn Eng
set_option maxRecDepth 100000
variable {W:World}
theorem m8PFits (i:Bool) (r:RG):Calls Tryz.prog 97 #[rpnV ⟨i,r⟩] W (RetV (.bool (i||gfits r)) W):=by
 refine Run.goP (S:=Z0) (Pack.nil.k (rpnV ⟨i,r⟩) (.bool i::(rgC r).toList) (.s (.agg (ks 0 9)))) Tryz.func97 rfl ?_
 cases i
 · refine Run.kn (b:=false) rfl ?_
   refine Run.cV [.bool (gfits r)] kb (fun β ℓ w H=>cFits r) ?_
   exact Run.rV rfl
 · refine Run.kn (b:=true) rfl ?_
   exact Run.rV rfl
theorem r8PF (p:Pn):Calls Tryz.prog 97 #[rpnV (pnR p)] W (RetV (.bool (pnfits p)) W):=by
 cases h:p.inf with
 | true =>
   rw [show pnR p=⟨true,rz⟩ by unfold pnR;rw [if_pos h],show pnfits p=(true||gfits rz) by unfold pnfits;rw [h];rfl]
   exact m8PFits true rz
 | false =>
   rw [show pnR p=⟨false,rg p.z⟩ by unfold pnR;rw [if_neg (by rw [h];decide)],show pnfits p=(false||gfits (rg p.z)) by unfold pnfits;rw [h]]
   exact m8PFits false (rg p.z)
end Go.Proofs.YtcpjdjnaipbieaaGreat
namespace Go.Proofs.YtcpjdjnaipbieaaGreat
open Go.RowKit Rgn Eng
variable {S:Nat→Prop} {W:World}
theorem rdSide (a:Ci) (P:Pn) (p0:ht a.a+ht a.b.re+ht a.b.im+ht a.c≤40000) (p1:PnF P):Calls Tryz.prog 91 #[ciV a,rpnV (pnR P)] W (RetV (.int .i64 (a.rim.side P)) W):=by
 have h3:=p1.ht
 cases e:P.inf with
 | true =>
  rw [pnR_I p1 e]
  refine reV (congrArg (Value.int .i64) ?_) (rdSiI a)
  rfl
 | false =>
  obtain ⟨i,z⟩:=P
  cases e
  refine reV (congrArg (Value.int .i64) ?_) (rdSiZ z a (by dsimp only at h3;omega))
  rfl
end Go.Proofs.YtcpjdjnaipbieaaGreat
namespace Go.Proofs.YtcpjdjnaipbieaaGreat
open Go.RowKit Rgn Eng
theorem ct_T {x:Ci} (h:cifits (rci x)=true):(!decide (cicut x=rci x))=false:=by rw [ok_r h,decide_eq_true rfl];rfl
theorem ce_T {x:Ci} (h:cifits (rci x)=true):(cierr x != 0)=false:=er_t h
theorem ct_F {x:Ci} (h:cifits (rci x)=false):(!decide (cicut x=rzCi))=false:=by unfold cicut;rw [if_neg (by rw [h];decide),decide_eq_true rfl];rfl
theorem ce_F {x:Ci} (h:cifits (rci x)=false):(cierr x != 4)=false:=by unfold cierr;rw [if_neg (by rw [h];decide)];rfl
theorem ft_T {x:Rat} (h:fits (rf x)=true):(!decide (fcut x=rf x))=false:=by unfold fcut;rw [if_pos h,decide_eq_true rfl];rfl
theorem fe_T {x:Rat} (h:fits (rf x)=true):(ferr x != 0)=false:=by unfold ferr;rw [if_pos h];rfl
theorem ft_F {x:Rat} (h:fits (rf x)=false):(!decide (fcut x=rz.re))=false:=by unfold fcut;rw [if_neg (by rw [h];decide),decide_eq_true rfl];rfl
theorem fe_F {x:Rat} (h:fits (rf x)=false):(ferr x != 4)=false:=by unfold ferr;rw [if_neg (by rw [h];decide)];rfl
theorem pt_T {p:Pn} (h:pnfits p=true):decide (pncut p=pnR p)=true:=by unfold pncut;rw [if_pos h];exact decide_eq_true rfl
theorem pe_T {p:Pn} (h:pnfits p=true):(pnerr p == 0)=true:=by unfold pnerr;rw [if_pos h];rfl
theorem pt_F {p:Pn} (h:pnfits p=false):decide (pncut p=rzPn)=true:=by unfold pncut;rw [if_neg (by rw [h];decide)];exact decide_eq_true rfl
theorem pe_F {p:Pn} (h:pnfits p=false):(pnerr p == 4)=true:=by unfold pnerr;rw [if_neg (by rw [h];decide)];rfl
def kisR (a b:Ci):RPn:=if a.touch b=true then pncut (a.kis b) else rzPn
def kisE (a b:Ci):Int:=if a.touch b=true then pnerr (a.kis b) else 300
section
variable {a b:Ci}
theorem kr_F (h:a.touch b=false):decide (kisR a b=rzPn)=true:=by unfold kisR;rw [if_neg (by rw [h];decide)];exact decide_eq_true rfl
theorem ke_F (h:a.touch b=false):(kisE a b == 300)=true:=by unfold kisE;rw [if_neg (by rw [h];decide)];rfl
theorem kr_T (h:a.touch b=true) (f:pnfits (a.kis b)=true):decide (kisR a b=pnR (a.kis b))=true:=by unfold kisR;rw [if_pos h];exact pt_T f
theorem ke_T (h:a.touch b=true) (f:pnfits (a.kis b)=true):(kisE a b == 0)=true:=by unfold kisE;rw [if_pos h];exact pe_T f
theorem kr_N (h:a.touch b=true) (f:pnfits (a.kis b)=false):decide (kisR a b=rzPn)=true:=by unfold kisR;rw [if_pos h];exact pt_F f
theorem ke_N (h:a.touch b=true) (f:pnfits (a.kis b)=false):(kisE a b == 4)=true:=by unfold kisE;rw [if_pos h];exact pe_F f
end
theorem kiA {W:World} (a b:Ci) (p0:dsOk (rci a)=true) (p1:dsOk (rci b)=true):Calls Tryz.prog 85 #[ciV a,ciV b] W (RetV (.tuple #[rpnV (kisR a b),.int .i64 (kisE a b)]) W):=by
 cases h:a.touch b with
 | true=>refine reV ?_ (kiT a b p0 p1 h);unfold kisR kisE;rw [if_pos h,if_pos h]
 | false=>refine reV ?_ (kiF a b p0 p1 h);unfold kisR kisE;rw [if_neg (by rw [h];decide),if_neg (by rw [h];decide)]
end Go.Proofs.YtcpjdjnaipbieaaGreat
namespace Go.Proofs.YtcpjdjnaipbieaaGreat
open Go.RowKit Rgn Eng
set_option maxHeartbeats 8000000
set_option maxRecDepth 100000
variable {S:Nat→Prop} {W:World}
theorem lDt0 (a:RCi) (b:RCi) (p:RPn) (p0:(lgK a||lgK b)=true):Calls Tryz.prog 11 #[rciV a,rciV b,rpnV p] W (RetV (.bool true) W):=by
 refine Run.goP (S:=Z0) (((Pack.nil.k (rciV a) (rciC a).toList (.s (.agg (ks 0 16)))).k (rciV b) (rciC b).toList (.s (.agg (ks 0 16)))).k (rpnV p) (rpnC p).toList (.s (.agg (ks 0 9)))) Tryz.func11 rfl ?_
 refine Run.cV [.bool (lgK a||lgK b)] kb (fun _ _ _ H=>l20far2 29 a b (H.b 3)) ?_
 refine Run.kn p0 ?_
 refine Run.cV [] (cb true) (fun _ _ _ H=>l20works) ?_
 exact Run.rV rfl
theorem lDt1 (a:RCi) (b:RCi) (p:RPn) (p0:(lgK a||lgK b)=false) (p1:lgE p.z=true):Calls Tryz.prog 11 #[rciV a,rciV b,rpnV p] W (RetV (.bool true) W):=by
 refine Run.goP (S:=Z0) (((Pack.nil.k (rciV a) (rciC a).toList (.s (.agg (ks 0 16)))).k (rciV b) (rciC b).toList (.s (.agg (ks 0 16)))).k (rpnV p) (rpnC p).toList (.s (.agg (ks 0 9)))) Tryz.func11 rfl ?_
 refine Run.cV [.bool (lgK a||lgK b)] kb (fun _ _ _ H=>l20far2 29 a b (H.b 3)) ?_
 refine Run.kn p0 ?_
 refine Run.cV [.bool (lgE p.z)] kb (fun _ _ _ H=>l20long1 27 p.z (H.b 4)) ?_
 refine Run.kn p1 ?_
 refine Run.cV [] (cb true) (fun _ _ _ H=>l20works) ?_
 exact Run.rV rfl
theorem lDt2 (a:RCi) (b:RCi) (p:RPn) (p0:(lgK a||lgK b)=false) (p1:lgE p.z=false) (p2:dsOk a=false):Calls Tryz.prog 11 #[rciV a,rciV b,rpnV p] W (RetV (.bool true) W):=by
 refine Run.goP (S:=Z0) (((Pack.nil.k (rciV a) (rciC a).toList (.s (.agg (ks 0 16)))).k (rciV b) (rciC b).toList (.s (.agg (ks 0 16)))).k (rpnV p) (rpnC p).toList (.s (.agg (ks 0 9)))) Tryz.func11 rfl ?_
 refine Run.cV [.bool (lgK a||lgK b)] kb (fun _ _ _ H=>l20far2 29 a b (H.b 3)) ?_
 refine Run.kn p0 ?_
 refine Run.cV [.bool (lgE p.z)] kb (fun _ _ _ H=>l20long1 27 p.z (H.b 4)) ?_
 refine Run.kn p1 ?_
 refine Run.cV (rciC rzCi).toList (.tup [.agg (ks 0 16),.o (.c (.int .i64 2))]) (fun _ _ _ H=>edN a p2) ?_
 refine Run.cV (rciC rzCi).toList (.tup [.agg (ks 0 16),.o (.c (.int .i64 2))]) (fun _ _ _ H=>ouN a p2) ?_
 refine Run.cV [] (.tup [.o (.c (.int .i64 0)),.o (.c (.int .i64 2))]) (fun _ _ _ H=>siN a p p2) ?_
 refine Run.cV (rfC rz.re).toList (.tup [.agg (ks 0 4),.o (.c (.int .i64 2))]) (fun _ _ _ H=>pr0 a b p2) ?_
 refine Run.cV [] (.tup [.o (.c (.bool false)),.o (.c (.int .i64 2))]) (fun _ _ _ H=>to0 29 a b (H.b 8) p2) ?_
 refine Run.cV [] (.tup [.o (.c (.bool false)),.o (.c (.int .i64 2))]) (fun _ _ _ H=>ap0 a b p2) ?_
 refine Run.cV (rpnC rzPn).toList (.tup [.agg (ks 0 9),.o (.c (.int .i64 2))]) (fun _ _ _ H=>ki0 a b p2) ?_
 refine Run.dr ?_
 refine RunD.cV [] (.s (.o (.c (.int .i64 2)))) (fun _ _ _ H=>dkcN a p2) ?_
 refine RunD.cV [] (.s (.o (.c (.int .i64 2)))) (fun _ _ _ H=>l20num 2) ?_
 refine RunD.cV [] (.s (.o (.c (.int .i64 2)))) (fun _ _ _ H=>rdChkN a p2) ?_
 refine RunD.en ?_
 refine Run.cV [] (.s (.o (.c (.int .i64 2)))) (fun _ _ _ H=>rdChkN a p2) ?_
 refine Run.bi [] (cb false) (fun _ _ _ o1 o2 _ ho hx hy=>ex_neq_ci (r:=rzCi) (q:=rzCi) o1 o2 ho hx hy (decide_eq_true rfl)) ?_
 refine Run.cV [] (.s (.o (.c (.int .i64 2)))) (fun _ _ _ H=>l20num 2) ?_
 refine Run.bi [] (cb false) (fun _ _ _ o1 o2 _ ho hx hy=>ex_neq_dk (r:=rzCi) (q:=rzCi) o1 o2 ho hx hy (decide_eq_true rfl)) ?_
 refine Run.cV [] (.s (.o (.c (.int .i64 2)))) (fun _ _ _ H=>l20num 2) ?_
 refine Run.cV [] (.s (.o (.c (.int .i64 2)))) (fun _ _ _ H=>l20num 2) ?_
 refine Run.cV [] (.s (.o (.c (.int .i64 2)))) (fun _ _ _ H=>rdChkN a p2) ?_
 refine Run.bi [] (cb true) (fun _ _ _ o1 o2 _ ho hx hy=>ex_eql_frac (r:=rz.re) (q:=rz.re) o1 o2 ho hx hy (decide_eq_true rfl)) ?_
 refine Run.cV [] (.s (.o (.c (.int .i64 2)))) (fun _ _ _ H=>l20num 2) ?_
 refine Run.cV [] (.s (.o (.c (.int .i64 2)))) (fun _ _ _ H=>l20num 2) ?_
 refine Run.cV [] (.s (.o (.c (.int .i64 2)))) (fun _ _ _ H=>l20num 2) ?_
 refine Run.bi [] (cb true) (fun _ _ _ o1 o2 _ ho hx hy=>ex_eql_pn (r:=rzPn) (q:=rzPn) o1 o2 ho hx hy (decide_eq_true rfl)) ?_
 refine Run.cV [] (.s (.o (.c (.int .i64 2)))) (fun _ _ _ H=>l20num 2) ?_
 refine Run.cV [] (cb true) (fun _ _ _ H=>l20works) ?_
 exact Run.rV rfl
theorem lDt3 (a:Ci) (b:RCi) (p:RPn) (p0:(lgK (rci a)||lgK b)=false) (p1:lgE p.z=false) (p2:dsOk (rci a)=true) (p3:dsOk b=false) (p4:pnOk p=false):Calls Tryz.prog 11 #[ciV a,rciV b,rpnV p] W (RetV (.bool true) W):=by
 have f0:=cifits_ht (dsOk_c p2).1
 refine Run.goP (S:=Z0) (((Pack.nil.k (ciV a) (ciC a).toList (.s (.agg (ks 0 16)))).k (rciV b) (rciC b).toList (.s (.agg (ks 0 16)))).k (rpnV p) (rpnC p).toList (.s (.agg (ks 0 9)))) Tryz.func11 rfl ?_
 refine Run.cV [.bool (lgK (rci a)||lgK b)] kb (fun _ _ _ H=>l20far2 29 (rci a) b (H.b 3)) ?_
 refine Run.kn p0 ?_
 refine Run.cV [.bool (lgE p.z)] kb (fun _ _ _ H=>l20long1 27 p.z (H.b 4)) ?_
 refine Run.kn p1 ?_
 refine Run.cV ((rciC (cicut a.rim.nrm)).toList++[.int .i64 (cierr a.rim.nrm)]) (.tup [.agg (ks 0 16),.o (.k 16)]) (fun _ _ _ H=>edY a p2) ?_
 refine Run.cV (ciC a.out).toList (.tup [.agg (ks 0 16),.o (.c (.int .i64 0))]) (fun _ _ _ H=>ouY a p2) ?_
 refine Run.cV [] (.tup [.o (.c (.int .i64 0)),.o (.c (.int .i64 2))]) (fun _ _ _ H=>siM a p p2 p4) ?_
 refine Run.cV (rfC rz.re).toList (.tup [.agg (ks 0 4),.o (.c (.int .i64 2))]) (fun _ _ _ H=>pr1 a b p2 p3) ?_
 refine Run.cV [] (.tup [.o (.c (.bool false)),.o (.c (.int .i64 2))]) (fun _ _ _ H=>to1 29 a b (H.b 8) p2 p3) ?_
 refine Run.cV [] (.tup [.o (.c (.bool false)),.o (.c (.int .i64 2))]) (fun _ _ _ H=>ap1 a b p2 p3) ?_
 refine Run.cV (rpnC rzPn).toList (.tup [.agg (ks 0 9),.o (.c (.int .i64 2))]) (fun _ _ _ H=>ki1 a b p2 p3) ?_
 refine Run.dr ?_
 refine RunD.cV [] (.s (.o (.c (.int .i64 0)))) (fun _ _ _ H=>dkcO a p2) ?_
 refine RunD.cV [] (.s (.o (.c (.int .i64 0)))) (fun _ _ _ H=>l20num 0) ?_
 refine RunD.cV [] (.s (.o (.c (.int .i64 0)))) (fun _ _ _ H=>rdChkO a p2) ?_
 refine RunD.en ?_
 refine Run.cV [] (.s (.o (.c (.int .i64 0)))) (fun _ _ _ H=>rdChkO a p2) ?_
 refine Run.cV (ciC a.rim.nrm).toList (.s (.agg (ks 0 16))) (fun _ _ _ H=>rdEdge a (by omega) (by exact rim_flat p2)) ?_
 refine Run.cut 1 ?_ (fun J1=>?_)
 · refine Run.cV [.bool (pnOk p)] kb (fun _ _ _ H=>p7May p) ?_
   refine Run.kn p4 ?_
   refine Run.cV [] (.s (.o (.c (.int .i64 2)))) (fun _ _ _ H=>l20num 2) ?_
   refine Run.cV [.bool (pnOk p)] kb (fun _ _ _ H=>p7May p) ?_
   refine Run.kn p4 ?_
   refine Run.cV [] (.s (.o (.c (.int .i64 0)))) (fun _ _ _ H=>rdChkO a p2) ?_
   refine Run.cV [] (.s (.o (.c (.int .i64 2)))) (fun _ _ _ H=>rdChkN b p3) ?_
   refine Run.bi [] (cb true) (fun _ _ _ o1 o2 _ ho hx hy=>ex_eql_frac (r:=rz.re) (q:=rz.re) o1 o2 ho hx hy (decide_eq_true rfl)) ?_
   refine Run.cV [] (.s (.o (.c (.int .i64 2)))) (fun _ _ _ H=>l20num 2) ?_
   refine Run.cV [] (.s (.o (.c (.int .i64 2)))) (fun _ _ _ H=>l20num 2) ?_
   refine Run.cV [] (.s (.o (.c (.int .i64 2)))) (fun _ _ _ H=>l20num 2) ?_
   refine Run.bi [] (cb true) (fun _ _ _ o1 o2 _ ho hx hy=>ex_eql_pn (r:=rzPn) (q:=rzPn) o1 o2 ho hx hy (decide_eq_true rfl)) ?_
   refine Run.cV [] (.s (.o (.c (.int .i64 2)))) (fun _ _ _ H=>l20num 2) ?_
   refine Run.cV [] (cb true) (fun _ _ _ H=>l20works) ?_
   exact Run.rV rfl
 · refine (Bool.eq_false_or_eq_true (cifits (rci a.rim.nrm))).elim (fun c1=>?_) (fun c1=>?_)
   · refine Run.dr ?_
     refine RunD.cV [] (cb true) (fun _ _ _ H=>c11Fits (rci a.rim.nrm)) ?_ (hV:=fun _ _=>congrArg Value.bool c1)
     refine RunD.cV [] (cb true) (fun _ _ _ H=>c11Fits (rci a.rim.nrm)) ?_ (hV:=fun _ _=>congrArg Value.bool c1)
     refine RunD.bi [] (cb false) (fun _ _ _ o1 o2 _ ho hx hy=>ex_neq_ci (r:=cicut a.rim.nrm) (q:=(rci a.rim.nrm)) o1 o2 ho hx hy rfl) ?_ (hV:=fun _ _=>congrArg Value.bool (ct_T c1))
     refine RunD.cV [.int .i64 (cierr a.rim.nrm)] kb (fun _ _ _ H=>l20num (cierr a.rim.nrm)) ?_
     refine RunD.bi [] (cb false) (fun _ _ _ o1 o2 _ ho hx hy=>ex_icmp .neq 3 (cierr a.rim.nrm) 0 (kk:=.i64) rfl ho hx hy) ?_ (hV:=fun _ _=>congrArg Value.bool (ce_T c1))
     refine RunD.cV (ciC a.out).toList (.s (.agg (ks 0 16))) (fun _ _ _ H=>rdOut a) ?_
     refine RunD.bi [] (cb false) (fun _ _ _ o1 o2 _ ho hx hy=>ex_neq_dk (r:=(rci a.out)) (q:=(rci a.out)) o1 o2 ho hx hy ((rci_dec a.out a.out).trans (decide_eq_true rfl))) ?_
     refine RunD.cV [] (.s (.o (.c (.int .i64 0)))) (fun _ _ _ H=>l20num 0) ?_
     refine RunD.en ?_
     refine Run.to 2 ?_
     exact Run.sb J1
   · refine Run.dr ?_
     refine RunD.cV [] (cb false) (fun _ _ _ H=>c11Fits (rci a.rim.nrm)) ?_ (hV:=fun _ _=>congrArg Value.bool c1)
     refine RunD.bi [] (cb false) (fun _ _ _ o1 o2 _ ho hx hy=>ex_neq_ci (r:=cicut a.rim.nrm) (q:=rzCi) o1 o2 ho hx hy rfl) ?_ (hV:=fun _ _=>congrArg Value.bool (ct_F c1))
     refine RunD.cV [.int .i64 (cierr a.rim.nrm)] kb (fun _ _ _ H=>l20num (cierr a.rim.nrm)) ?_
     refine RunD.bi [] (cb false) (fun _ _ _ o1 o2 _ ho hx hy=>ex_icmp .neq 3 (cierr a.rim.nrm) 4 (kk:=.i64) rfl ho hx hy) ?_ (hV:=fun _ _=>congrArg Value.bool (ce_F c1))
     refine RunD.cV [] (cb false) (fun _ _ _ H=>c11Fits (rci a.rim.nrm)) ?_ (hV:=fun _ _=>congrArg Value.bool c1)
     refine RunD.cV (ciC a.out).toList (.s (.agg (ks 0 16))) (fun _ _ _ H=>rdOut a) ?_
     refine RunD.bi [] (cb false) (fun _ _ _ o1 o2 _ ho hx hy=>ex_neq_dk (r:=(rci a.out)) (q:=(rci a.out)) o1 o2 ho hx hy ((rci_dec a.out a.out).trans (decide_eq_true rfl))) ?_
     refine RunD.cV [] (.s (.o (.c (.int .i64 0)))) (fun _ _ _ H=>l20num 0) ?_
     refine RunD.en ?_
     refine Run.to 2 ?_
     exact Run.sb J1
theorem lDt4 (P:Pn) (a:Ci) (b:RCi) (p0:(lgK (rci a)||lgK b)=false) (p1:lgE (pnR P).z=false) (p2:dsOk (rci a)=true) (p3:dsOk b=false) (p4:PnF P):Calls Tryz.prog 11 #[ciV a,rciV b,rpnV (pnR P)] W (RetV (.bool true) W):=by
 have f0:=cifits_ht (dsOk_c p2).1
 refine Run.goP (S:=Z0) (((Pack.nil.k (ciV a) (ciC a).toList (.s (.agg (ks 0 16)))).k (rciV b) (rciC b).toList (.s (.agg (ks 0 16)))).k (rpnV (pnR P)) (rpnC (pnR P)).toList (.s (.agg (ks 0 9)))) Tryz.func11 rfl ?_
 refine Run.cV [.bool (lgK (rci a)||lgK b)] kb (fun _ _ _ H=>l20far2 29 (rci a) b (H.b 3)) ?_
 refine Run.kn p0 ?_
 refine Run.cV [.bool (lgE ((pnR P).z))] kb (fun _ _ _ H=>l20long1 27 ((pnR P).z) (H.b 4)) ?_
 refine Run.kn p1 ?_
 refine Run.cV ((rciC (cicut a.rim.nrm)).toList++[.int .i64 (cierr a.rim.nrm)]) (.tup [.agg (ks 0 16),.o (.k 16)]) (fun _ _ _ H=>edY a p2) ?_
 refine Run.cV (ciC a.out).toList (.tup [.agg (ks 0 16),.o (.c (.int .i64 0))]) (fun _ _ _ H=>ouY a p2) ?_
 refine Run.cV [.int .i64 (a.rim.side P)] (.tup [.o (.k 0),.o (.c (.int .i64 0))]) (fun _ _ _ H=>siY a P p2 p4) ?_
 refine Run.cV (rfC rz.re).toList (.tup [.agg (ks 0 4),.o (.c (.int .i64 2))]) (fun _ _ _ H=>pr1 a b p2 p3) ?_
 refine Run.cV [] (.tup [.o (.c (.bool false)),.o (.c (.int .i64 2))]) (fun _ _ _ H=>to1 29 a b (H.b 8) p2 p3) ?_
 refine Run.cV [] (.tup [.o (.c (.bool false)),.o (.c (.int .i64 2))]) (fun _ _ _ H=>ap1 a b p2 p3) ?_
 refine Run.cV (rpnC rzPn).toList (.tup [.agg (ks 0 9),.o (.c (.int .i64 2))]) (fun _ _ _ H=>ki1 a b p2 p3) ?_
 refine Run.dr ?_
 refine RunD.cV [] (.s (.o (.c (.int .i64 0)))) (fun _ _ _ H=>dkcO a p2) ?_
 refine RunD.cV [] (.s (.o (.c (.int .i64 0)))) (fun _ _ _ H=>l20num 0) ?_
 refine RunD.cV [] (.s (.o (.c (.int .i64 0)))) (fun _ _ _ H=>rdChkO a p2) ?_
 refine RunD.en ?_
 refine Run.cV [] (.s (.o (.c (.int .i64 0)))) (fun _ _ _ H=>rdChkO a p2) ?_
 refine Run.cV (ciC a.rim.nrm).toList (.s (.agg (ks 0 16))) (fun _ _ _ H=>rdEdge a (by omega) (by exact rim_flat p2)) ?_
 refine Run.cut 1 ?_ (fun J1=>?_)
 · refine Run.cV [.bool (pnOk (pnR P))] kb (fun _ _ _ H=>p7May (pnR P)) ?_
   refine Run.kn (pnOk_pnR p4) ?_
   refine Run.cV [.bool (pnOk (pnR P))] kb (fun _ _ _ H=>p7May (pnR P)) ?_
   refine Run.kn (pnOk_pnR p4) ?_
   refine Run.cV [.int .i64 (a.rim.side P)] kb (fun _ _ _ H=>rdSide a P (by omega) p4) ?_
   refine Run.ic (a.rim.side P) (a.rim.side P) ((a.rim.side P) != (a.rim.side P)) ?_
   refine Run.kn (bne_self_eq_false (a.rim.side P)) ?_
   refine Run.cV [] (.s (.o (.c (.int .i64 0)))) (fun _ _ _ H=>l20num 0) ?_
   refine Run.cV [] (.s (.o (.c (.int .i64 0)))) (fun _ _ _ H=>rdChkO a p2) ?_
   refine Run.cV [] (.s (.o (.c (.int .i64 2)))) (fun _ _ _ H=>rdChkN b p3) ?_
   refine Run.bi [] (cb true) (fun _ _ _ o1 o2 _ ho hx hy=>ex_eql_frac (r:=rz.re) (q:=rz.re) o1 o2 ho hx hy (decide_eq_true rfl)) ?_
   refine Run.cV [] (.s (.o (.c (.int .i64 2)))) (fun _ _ _ H=>l20num 2) ?_
   refine Run.cV [] (.s (.o (.c (.int .i64 2)))) (fun _ _ _ H=>l20num 2) ?_
   refine Run.cV [] (.s (.o (.c (.int .i64 2)))) (fun _ _ _ H=>l20num 2) ?_
   refine Run.bi [] (cb true) (fun _ _ _ o1 o2 _ ho hx hy=>ex_eql_pn (r:=rzPn) (q:=rzPn) o1 o2 ho hx hy (decide_eq_true rfl)) ?_
   refine Run.cV [] (.s (.o (.c (.int .i64 2)))) (fun _ _ _ H=>l20num 2) ?_
   refine Run.cV [] (cb true) (fun _ _ _ H=>l20works) ?_
   exact Run.rV rfl
 · refine (Bool.eq_false_or_eq_true (cifits (rci a.rim.nrm))).elim (fun c1=>?_) (fun c1=>?_)
   · refine Run.dr ?_
     refine RunD.cV [] (cb true) (fun _ _ _ H=>c11Fits (rci a.rim.nrm)) ?_ (hV:=fun _ _=>congrArg Value.bool c1)
     refine RunD.cV [] (cb true) (fun _ _ _ H=>c11Fits (rci a.rim.nrm)) ?_ (hV:=fun _ _=>congrArg Value.bool c1)
     refine RunD.bi [] (cb false) (fun _ _ _ o1 o2 _ ho hx hy=>ex_neq_ci (r:=cicut a.rim.nrm) (q:=(rci a.rim.nrm)) o1 o2 ho hx hy rfl) ?_ (hV:=fun _ _=>congrArg Value.bool (ct_T c1))
     refine RunD.cV [.int .i64 (cierr a.rim.nrm)] kb (fun _ _ _ H=>l20num (cierr a.rim.nrm)) ?_
     refine RunD.bi [] (cb false) (fun _ _ _ o1 o2 _ ho hx hy=>ex_icmp .neq 3 (cierr a.rim.nrm) 0 (kk:=.i64) rfl ho hx hy) ?_ (hV:=fun _ _=>congrArg Value.bool (ce_T c1))
     refine RunD.cV (ciC a.out).toList (.s (.agg (ks 0 16))) (fun _ _ _ H=>rdOut a) ?_
     refine RunD.bi [] (cb false) (fun _ _ _ o1 o2 _ ho hx hy=>ex_neq_dk (r:=(rci a.out)) (q:=(rci a.out)) o1 o2 ho hx hy ((rci_dec a.out a.out).trans (decide_eq_true rfl))) ?_
     refine RunD.cV [] (.s (.o (.c (.int .i64 0)))) (fun _ _ _ H=>l20num 0) ?_
     refine RunD.en ?_
     refine Run.to 2 ?_
     exact Run.sb J1
   · refine Run.dr ?_
     refine RunD.cV [] (cb false) (fun _ _ _ H=>c11Fits (rci a.rim.nrm)) ?_ (hV:=fun _ _=>congrArg Value.bool c1)
     refine RunD.bi [] (cb false) (fun _ _ _ o1 o2 _ ho hx hy=>ex_neq_ci (r:=cicut a.rim.nrm) (q:=rzCi) o1 o2 ho hx hy rfl) ?_ (hV:=fun _ _=>congrArg Value.bool (ct_F c1))
     refine RunD.cV [.int .i64 (cierr a.rim.nrm)] kb (fun _ _ _ H=>l20num (cierr a.rim.nrm)) ?_
     refine RunD.bi [] (cb false) (fun _ _ _ o1 o2 _ ho hx hy=>ex_icmp .neq 3 (cierr a.rim.nrm) 4 (kk:=.i64) rfl ho hx hy) ?_ (hV:=fun _ _=>congrArg Value.bool (ce_F c1))
     refine RunD.cV [] (cb false) (fun _ _ _ H=>c11Fits (rci a.rim.nrm)) ?_ (hV:=fun _ _=>congrArg Value.bool c1)
     refine RunD.cV (ciC a.out).toList (.s (.agg (ks 0 16))) (fun _ _ _ H=>rdOut a) ?_
     refine RunD.bi [] (cb false) (fun _ _ _ o1 o2 _ ho hx hy=>ex_neq_dk (r:=(rci a.out)) (q:=(rci a.out)) o1 o2 ho hx hy ((rci_dec a.out a.out).trans (decide_eq_true rfl))) ?_
     refine RunD.cV [] (.s (.o (.c (.int .i64 0)))) (fun _ _ _ H=>l20num 0) ?_
     refine RunD.en ?_
     refine Run.to 2 ?_
     exact Run.sb J1
theorem lDt5 (a:Ci) (b:Ci) (p:RPn) (p0:(lgK (rci a)||lgK (rci b))=false) (p1:lgE p.z=false) (p2:dsOk (rci a)=true) (p3:dsOk (rci b)=true) (p4:pnOk p=false):Calls Tryz.prog 11 #[ciV a,ciV b,rpnV p] W (RetV (.bool true) W):=by
 have f0:=cifits_ht (dsOk_c p2).1
 have f1:=cifits_ht (dsOk_c p3).1
 refine Run.goP (S:=Z0) (((Pack.nil.k (ciV a) (ciC a).toList (.s (.agg (ks 0 16)))).k (ciV b) (ciC b).toList (.s (.agg (ks 0 16)))).k (rpnV p) (rpnC p).toList (.s (.agg (ks 0 9)))) Tryz.func11 rfl ?_
 refine Run.cV [.bool (lgK (rci a)||lgK (rci b))] kb (fun _ _ _ H=>l20far2 29 (rci a) (rci b) (H.b 3)) ?_
 refine Run.kn p0 ?_
 refine Run.cV [.bool (lgE p.z)] kb (fun _ _ _ H=>l20long1 27 p.z (H.b 4)) ?_
 refine Run.kn p1 ?_
 refine Run.cV ((rciC (cicut a.rim.nrm)).toList++[.int .i64 (cierr a.rim.nrm)]) (.tup [.agg (ks 0 16),.o (.k 16)]) (fun _ _ _ H=>edY a p2) ?_
 refine Run.cV (ciC a.out).toList (.tup [.agg (ks 0 16),.o (.c (.int .i64 0))]) (fun _ _ _ H=>ouY a p2) ?_
 refine Run.cV [] (.tup [.o (.c (.int .i64 0)),.o (.c (.int .i64 2))]) (fun _ _ _ H=>siM a p p2 p4) ?_
 refine Run.cV ((rfC (fcut (a.dot b))).toList++[.int .i64 (ferr (a.dot b))]) (.tup [.agg (ks 0 4),.o (.k 4)]) (fun _ _ _ H=>prY a b p2 p3) ?_
 refine Run.cV [.bool (a.touch b)] (.tup [.o (.k 0),.o (.c (.int .i64 0))]) (fun _ _ _ H=>toY 29 a b (H.b 8) p2 p3) ?_
 refine Run.cV [.bool (a.apt b)] (.tup [.o (.k 0),.o (.c (.int .i64 0))]) (fun _ _ _ H=>apY a b p2 p3) ?_
 refine Run.cV ((rpnC (kisR a b)).toList++[.int .i64 (kisE a b)]) (.tup [.agg (ks 0 9),.o (.k 9)]) (fun _ _ _ H=>kiA a b p2 p3) ?_
 refine Run.dr ?_
 refine RunD.cV [] (.s (.o (.c (.int .i64 0)))) (fun _ _ _ H=>dkcO a p2) ?_
 refine RunD.cV [] (.s (.o (.c (.int .i64 0)))) (fun _ _ _ H=>l20num 0) ?_
 refine RunD.cV [] (.s (.o (.c (.int .i64 0)))) (fun _ _ _ H=>rdChkO a p2) ?_
 refine RunD.en ?_
 refine Run.cV [] (.s (.o (.c (.int .i64 0)))) (fun _ _ _ H=>rdChkO a p2) ?_
 refine Run.cV (ciC a.rim.nrm).toList (.s (.agg (ks 0 16))) (fun _ _ _ H=>rdEdge a (by omega) (by exact rim_flat p2)) ?_
 refine Run.cut 1 ?_ (fun J1=>?_)
 · refine Run.cV [.bool (pnOk p)] kb (fun _ _ _ H=>p7May p) ?_
   refine Run.kn p4 ?_
   refine Run.cV [] (.s (.o (.c (.int .i64 2)))) (fun _ _ _ H=>l20num 2) ?_
   refine Run.cV [.bool (pnOk p)] kb (fun _ _ _ H=>p7May p) ?_
   refine Run.kn p4 ?_
   refine Run.cV [] (.s (.o (.c (.int .i64 0)))) (fun _ _ _ H=>rdChkO a p2) ?_
   refine Run.cV [] (.s (.o (.c (.int .i64 0)))) (fun _ _ _ H=>rdChkO b p3) ?_
   refine Run.cV (fC (a.dot b)).toList (.s (.agg (ks 0 4))) (fun _ _ _ H=>rdProd a b (by omega) (by omega)) ?_
   refine Run.cV [.bool (fits (rf (a.dot b)))] kb (fun _ _ _ H=>fFits (rf (a.dot b))) ?_
   refine (Bool.eq_false_or_eq_true (fits (rf (a.dot b)))).elim (fun c1=>?_) (fun c1=>?_)
   · refine Run.kn c1 ?_
     refine Run.cV [.bool (fits (rf (a.dot b)))] kb (fun _ _ _ H=>fFits (rf (a.dot b))) ?_
     refine Run.kn c1 ?_
     refine Run.bi [.bool (!decide (fcut (a.dot b)=rf (a.dot b)))] kb (fun _ _ _ o1 o2 _ ho hx hy=>ex_neq_frac (r:=fcut (a.dot b)) (q:=(rf (a.dot b))) o1 o2 ho hx hy rfl) ?_
     refine Run.kn (ft_T c1) ?_
     refine Run.cV [.int .i64 (ferr (a.dot b))] kb (fun _ _ _ H=>l20num (ferr (a.dot b))) ?_
     refine Run.ic (ferr (a.dot b)) 0 ((ferr (a.dot b)) != 0) ?_
     refine Run.kn (fe_T c1) ?_
     refine Run.cV [.bool (a.touch b)] kb (fun _ _ _ H=>rdTouch a b (by omega) (by omega)) ?_
     refine Run.bi [] (cb false) (fun _ _ _ o1 o2 _ ho hx hy=>ex_neq_bool (t:=4) (a.touch b) (a.touch b) Tryz.underlying4 ho hx hy) ?_ (hV:=fun _ _=>congrArg Value.bool (bne_self_eq_false _))
     refine Run.cV [] (.s (.o (.c (.int .i64 0)))) (fun _ _ _ H=>l20num 0) ?_
     refine Run.cV [.bool (a.apt b)] kb (fun _ _ _ H=>rdApt a b (by omega) (by omega)) ?_
     refine Run.bi [] (cb false) (fun _ _ _ o1 o2 _ ho hx hy=>ex_neq_bool (t:=4) (a.apt b) (a.apt b) Tryz.underlying4 ho hx hy) ?_ (hV:=fun _ _=>congrArg Value.bool (bne_self_eq_false _))
     refine Run.cV [] (.s (.o (.c (.int .i64 0)))) (fun _ _ _ H=>l20num 0) ?_
     refine Run.cV [.bool (a.touch b)] kb (fun _ _ _ H=>rdTouch a b (by omega) (by omega)) ?_
     refine (Bool.eq_false_or_eq_true (a.touch b)).elim (fun c2=>?_) (fun c2=>?_)
     · refine Run.kn c2 ?_
       refine Run.cV (rpnC (pnR (a.kis b))).toList (.s (.agg (ks 0 9))) (fun _ _ _ H=>rdKiss a b (by omega) (by omega)) ?_
       refine Run.cV [.bool (pnfits (a.kis b))] kb (fun _ _ _ H=>r8PF (a.kis b)) ?_
       refine (Bool.eq_false_or_eq_true (pnfits (a.kis b))).elim (fun c3=>?_) (fun c3=>?_)
       · refine Run.kn c3 ?_
         refine Run.bi [] (cb true) (fun _ _ _ o1 o2 _ ho hx hy=>ex_eql_pn (r:=kisR a b) (q:=pnR (a.kis b)) o1 o2 ho hx hy (kr_T c2 c3)) ?_
         refine Run.cV [.int .i64 (kisE a b)] kb (fun _ _ _ H=>l20num (kisE a b)) ?_
         refine Run.ic (kisE a b) 0 ((kisE a b) == 0) ?_
         refine Run.kn (ke_T c2 c3) ?_
         refine Run.cV [] (cb true) (fun _ _ _ H=>l20works) ?_
         exact Run.rV rfl
       · refine Run.kn c3 ?_
         refine Run.cV [.bool (pnfits (a.kis b))] kb (fun _ _ _ H=>r8PF (a.kis b)) ?_
         refine Run.kn c3 ?_
         refine Run.bi [] (cb true) (fun _ _ _ o1 o2 _ ho hx hy=>ex_eql_pn (r:=kisR a b) (q:=rzPn) o1 o2 ho hx hy (kr_N c2 c3)) ?_
         refine Run.cV [.int .i64 (kisE a b)] kb (fun _ _ _ H=>l20num (kisE a b)) ?_
         refine Run.ic (kisE a b) 4 ((kisE a b) == 4) ?_
         refine Run.kn (ke_N c2 c3) ?_
         refine Run.cV [] (cb true) (fun _ _ _ H=>l20works) ?_
         exact Run.rV rfl
     · refine Run.kn c2 ?_
       refine Run.bi [] (cb true) (fun _ _ _ o1 o2 _ ho hx hy=>ex_eql_pn (r:=kisR a b) (q:=rzPn) o1 o2 ho hx hy (kr_F c2)) ?_
       refine Run.cV [.int .i64 (kisE a b)] kb (fun _ _ _ H=>l20num (kisE a b)) ?_
       refine Run.ic (kisE a b) 300 ((kisE a b) == 300) ?_
       refine Run.kn (ke_F c2) ?_
       refine Run.cV [] (cb true) (fun _ _ _ H=>l20works) ?_
       exact Run.rV rfl
   · refine Run.kn c1 ?_
     refine Run.bi [.bool (!decide (fcut (a.dot b)=rz.re))] kb (fun _ _ _ o1 o2 _ ho hx hy=>ex_neq_frac (r:=fcut (a.dot b)) (q:=rz.re) o1 o2 ho hx hy rfl) ?_
     refine Run.kn (ft_F c1) ?_
     refine Run.cV [.int .i64 (ferr (a.dot b))] kb (fun _ _ _ H=>l20num (ferr (a.dot b))) ?_
     refine Run.ic (ferr (a.dot b)) 4 ((ferr (a.dot b)) != 4) ?_
     refine Run.kn (fe_F c1) ?_
     refine Run.cV [.bool (fits (rf (a.dot b)))] kb (fun _ _ _ H=>fFits (rf (a.dot b))) ?_
     refine Run.kn c1 ?_
     refine Run.cV [.bool (a.touch b)] kb (fun _ _ _ H=>rdTouch a b (by omega) (by omega)) ?_
     refine Run.bi [] (cb false) (fun _ _ _ o1 o2 _ ho hx hy=>ex_neq_bool (t:=4) (a.touch b) (a.touch b) Tryz.underlying4 ho hx hy) ?_ (hV:=fun _ _=>congrArg Value.bool (bne_self_eq_false _))
     refine Run.cV [] (.s (.o (.c (.int .i64 0)))) (fun _ _ _ H=>l20num 0) ?_
     refine Run.cV [.bool (a.apt b)] kb (fun _ _ _ H=>rdApt a b (by omega) (by omega)) ?_
     refine Run.bi [] (cb false) (fun _ _ _ o1 o2 _ ho hx hy=>ex_neq_bool (t:=4) (a.apt b) (a.apt b) Tryz.underlying4 ho hx hy) ?_ (hV:=fun _ _=>congrArg Value.bool (bne_self_eq_false _))
     refine Run.cV [] (.s (.o (.c (.int .i64 0)))) (fun _ _ _ H=>l20num 0) ?_
     refine Run.cV [.bool (a.touch b)] kb (fun _ _ _ H=>rdTouch a b (by omega) (by omega)) ?_
     refine (Bool.eq_false_or_eq_true (a.touch b)).elim (fun c4=>?_) (fun c4=>?_)
     · refine Run.kn c4 ?_
       refine Run.cV (rpnC (pnR (a.kis b))).toList (.s (.agg (ks 0 9))) (fun _ _ _ H=>rdKiss a b (by omega) (by omega)) ?_
       refine Run.cV [.bool (pnfits (a.kis b))] kb (fun _ _ _ H=>r8PF (a.kis b)) ?_
       refine (Bool.eq_false_or_eq_true (pnfits (a.kis b))).elim (fun c5=>?_) (fun c5=>?_)
       · refine Run.kn c5 ?_
         refine Run.bi [] (cb true) (fun _ _ _ o1 o2 _ ho hx hy=>ex_eql_pn (r:=kisR a b) (q:=pnR (a.kis b)) o1 o2 ho hx hy (kr_T c4 c5)) ?_
         refine Run.cV [.int .i64 (kisE a b)] kb (fun _ _ _ H=>l20num (kisE a b)) ?_
         refine Run.ic (kisE a b) 0 ((kisE a b) == 0) ?_
         refine Run.kn (ke_T c4 c5) ?_
         refine Run.cV [] (cb true) (fun _ _ _ H=>l20works) ?_
         exact Run.rV rfl
       · refine Run.kn c5 ?_
         refine Run.cV [.bool (pnfits (a.kis b))] kb (fun _ _ _ H=>r8PF (a.kis b)) ?_
         refine Run.kn c5 ?_
         refine Run.bi [] (cb true) (fun _ _ _ o1 o2 _ ho hx hy=>ex_eql_pn (r:=kisR a b) (q:=rzPn) o1 o2 ho hx hy (kr_N c4 c5)) ?_
         refine Run.cV [.int .i64 (kisE a b)] kb (fun _ _ _ H=>l20num (kisE a b)) ?_
         refine Run.ic (kisE a b) 4 ((kisE a b) == 4) ?_
         refine Run.kn (ke_N c4 c5) ?_
         refine Run.cV [] (cb true) (fun _ _ _ H=>l20works) ?_
         exact Run.rV rfl
     · refine Run.kn c4 ?_
       refine Run.bi [] (cb true) (fun _ _ _ o1 o2 _ ho hx hy=>ex_eql_pn (r:=kisR a b) (q:=rzPn) o1 o2 ho hx hy (kr_F c4)) ?_
       refine Run.cV [.int .i64 (kisE a b)] kb (fun _ _ _ H=>l20num (kisE a b)) ?_
       refine Run.ic (kisE a b) 300 ((kisE a b) == 300) ?_
       refine Run.kn (ke_F c4) ?_
       refine Run.cV [] (cb true) (fun _ _ _ H=>l20works) ?_
       exact Run.rV rfl
 · refine (Bool.eq_false_or_eq_true (cifits (rci a.rim.nrm))).elim (fun c6=>?_) (fun c6=>?_)
   · refine Run.dr ?_
     refine RunD.cV [] (cb true) (fun _ _ _ H=>c11Fits (rci a.rim.nrm)) ?_ (hV:=fun _ _=>congrArg Value.bool c6)
     refine RunD.cV [] (cb true) (fun _ _ _ H=>c11Fits (rci a.rim.nrm)) ?_ (hV:=fun _ _=>congrArg Value.bool c6)
     refine RunD.bi [] (cb false) (fun _ _ _ o1 o2 _ ho hx hy=>ex_neq_ci (r:=cicut a.rim.nrm) (q:=(rci a.rim.nrm)) o1 o2 ho hx hy rfl) ?_ (hV:=fun _ _=>congrArg Value.bool (ct_T c6))
     refine RunD.cV [.int .i64 (cierr a.rim.nrm)] kb (fun _ _ _ H=>l20num (cierr a.rim.nrm)) ?_
     refine RunD.bi [] (cb false) (fun _ _ _ o1 o2 _ ho hx hy=>ex_icmp .neq 3 (cierr a.rim.nrm) 0 (kk:=.i64) rfl ho hx hy) ?_ (hV:=fun _ _=>congrArg Value.bool (ce_T c6))
     refine RunD.cV (ciC a.out).toList (.s (.agg (ks 0 16))) (fun _ _ _ H=>rdOut a) ?_
     refine RunD.bi [] (cb false) (fun _ _ _ o1 o2 _ ho hx hy=>ex_neq_dk (r:=(rci a.out)) (q:=(rci a.out)) o1 o2 ho hx hy ((rci_dec a.out a.out).trans (decide_eq_true rfl))) ?_
     refine RunD.cV [] (.s (.o (.c (.int .i64 0)))) (fun _ _ _ H=>l20num 0) ?_
     refine RunD.en ?_
     refine Run.to 2 ?_
     exact Run.sb J1
   · refine Run.dr ?_
     refine RunD.cV [] (cb false) (fun _ _ _ H=>c11Fits (rci a.rim.nrm)) ?_ (hV:=fun _ _=>congrArg Value.bool c6)
     refine RunD.bi [] (cb false) (fun _ _ _ o1 o2 _ ho hx hy=>ex_neq_ci (r:=cicut a.rim.nrm) (q:=rzCi) o1 o2 ho hx hy rfl) ?_ (hV:=fun _ _=>congrArg Value.bool (ct_F c6))
     refine RunD.cV [.int .i64 (cierr a.rim.nrm)] kb (fun _ _ _ H=>l20num (cierr a.rim.nrm)) ?_
     refine RunD.bi [] (cb false) (fun _ _ _ o1 o2 _ ho hx hy=>ex_icmp .neq 3 (cierr a.rim.nrm) 4 (kk:=.i64) rfl ho hx hy) ?_ (hV:=fun _ _=>congrArg Value.bool (ce_F c6))
     refine RunD.cV [] (cb false) (fun _ _ _ H=>c11Fits (rci a.rim.nrm)) ?_ (hV:=fun _ _=>congrArg Value.bool c6)
     refine RunD.cV (ciC a.out).toList (.s (.agg (ks 0 16))) (fun _ _ _ H=>rdOut a) ?_
     refine RunD.bi [] (cb false) (fun _ _ _ o1 o2 _ ho hx hy=>ex_neq_dk (r:=(rci a.out)) (q:=(rci a.out)) o1 o2 ho hx hy ((rci_dec a.out a.out).trans (decide_eq_true rfl))) ?_
     refine RunD.cV [] (.s (.o (.c (.int .i64 0)))) (fun _ _ _ H=>l20num 0) ?_
     refine RunD.en ?_
     refine Run.to 2 ?_
     exact Run.sb J1
theorem lDt6 (P:Pn) (a:Ci) (b:Ci) (p0:(lgK (rci a)||lgK (rci b))=false) (p1:lgE (pnR P).z=false) (p2:dsOk (rci a)=true) (p3:dsOk (rci b)=true) (p4:PnF P):Calls Tryz.prog 11 #[ciV a,ciV b,rpnV (pnR P)] W (RetV (.bool true) W):=by
 have f0:=cifits_ht (dsOk_c p2).1
 have f1:=cifits_ht (dsOk_c p3).1
 refine Run.goP (S:=Z0) (((Pack.nil.k (ciV a) (ciC a).toList (.s (.agg (ks 0 16)))).k (ciV b) (ciC b).toList (.s (.agg (ks 0 16)))).k (rpnV (pnR P)) (rpnC (pnR P)).toList (.s (.agg (ks 0 9)))) Tryz.func11 rfl ?_
 refine Run.cV [.bool (lgK (rci a)||lgK (rci b))] kb (fun _ _ _ H=>l20far2 29 (rci a) (rci b) (H.b 3)) ?_
 refine Run.kn p0 ?_
 refine Run.cV [.bool (lgE ((pnR P).z))] kb (fun _ _ _ H=>l20long1 27 ((pnR P).z) (H.b 4)) ?_
 refine Run.kn p1 ?_
 refine Run.cV ((rciC (cicut a.rim.nrm)).toList++[.int .i64 (cierr a.rim.nrm)]) (.tup [.agg (ks 0 16),.o (.k 16)]) (fun _ _ _ H=>edY a p2) ?_
 refine Run.cV (ciC a.out).toList (.tup [.agg (ks 0 16),.o (.c (.int .i64 0))]) (fun _ _ _ H=>ouY a p2) ?_
 refine Run.cV [.int .i64 (a.rim.side P)] (.tup [.o (.k 0),.o (.c (.int .i64 0))]) (fun _ _ _ H=>siY a P p2 p4) ?_
 refine Run.cV ((rfC (fcut (a.dot b))).toList++[.int .i64 (ferr (a.dot b))]) (.tup [.agg (ks 0 4),.o (.k 4)]) (fun _ _ _ H=>prY a b p2 p3) ?_
 refine Run.cV [.bool (a.touch b)] (.tup [.o (.k 0),.o (.c (.int .i64 0))]) (fun _ _ _ H=>toY 29 a b (H.b 8) p2 p3) ?_
 refine Run.cV [.bool (a.apt b)] (.tup [.o (.k 0),.o (.c (.int .i64 0))]) (fun _ _ _ H=>apY a b p2 p3) ?_
 refine Run.cV ((rpnC (kisR a b)).toList++[.int .i64 (kisE a b)]) (.tup [.agg (ks 0 9),.o (.k 9)]) (fun _ _ _ H=>kiA a b p2 p3) ?_
 refine Run.dr ?_
 refine RunD.cV [] (.s (.o (.c (.int .i64 0)))) (fun _ _ _ H=>dkcO a p2) ?_
 refine RunD.cV [] (.s (.o (.c (.int .i64 0)))) (fun _ _ _ H=>l20num 0) ?_
 refine RunD.cV [] (.s (.o (.c (.int .i64 0)))) (fun _ _ _ H=>rdChkO a p2) ?_
 refine RunD.en ?_
 refine Run.cV [] (.s (.o (.c (.int .i64 0)))) (fun _ _ _ H=>rdChkO a p2) ?_
 refine Run.cV (ciC a.rim.nrm).toList (.s (.agg (ks 0 16))) (fun _ _ _ H=>rdEdge a (by omega) (by exact rim_flat p2)) ?_
 refine Run.cut 1 ?_ (fun J1=>?_)
 · refine Run.cV [.bool (pnOk (pnR P))] kb (fun _ _ _ H=>p7May (pnR P)) ?_
   refine Run.kn (pnOk_pnR p4) ?_
   refine Run.cV [.bool (pnOk (pnR P))] kb (fun _ _ _ H=>p7May (pnR P)) ?_
   refine Run.kn (pnOk_pnR p4) ?_
   refine Run.cV [.int .i64 (a.rim.side P)] kb (fun _ _ _ H=>rdSide a P (by omega) p4) ?_
   refine Run.ic (a.rim.side P) (a.rim.side P) ((a.rim.side P) != (a.rim.side P)) ?_
   refine Run.kn (bne_self_eq_false (a.rim.side P)) ?_
   refine Run.cV [] (.s (.o (.c (.int .i64 0)))) (fun _ _ _ H=>l20num 0) ?_
   refine Run.cV [] (.s (.o (.c (.int .i64 0)))) (fun _ _ _ H=>rdChkO a p2) ?_
   refine Run.cV [] (.s (.o (.c (.int .i64 0)))) (fun _ _ _ H=>rdChkO b p3) ?_
   refine Run.cV (fC (a.dot b)).toList (.s (.agg (ks 0 4))) (fun _ _ _ H=>rdProd a b (by omega) (by omega)) ?_
   refine Run.cV [.bool (fits (rf (a.dot b)))] kb (fun _ _ _ H=>fFits (rf (a.dot b))) ?_
   refine (Bool.eq_false_or_eq_true (fits (rf (a.dot b)))).elim (fun c1=>?_) (fun c1=>?_)
   · refine Run.kn c1 ?_
     refine Run.cV [.bool (fits (rf (a.dot b)))] kb (fun _ _ _ H=>fFits (rf (a.dot b))) ?_
     refine Run.kn c1 ?_
     refine Run.bi [.bool (!decide (fcut (a.dot b)=rf (a.dot b)))] kb (fun _ _ _ o1 o2 _ ho hx hy=>ex_neq_frac (r:=fcut (a.dot b)) (q:=(rf (a.dot b))) o1 o2 ho hx hy rfl) ?_
     refine Run.kn (ft_T c1) ?_
     refine Run.cV [.int .i64 (ferr (a.dot b))] kb (fun _ _ _ H=>l20num (ferr (a.dot b))) ?_
     refine Run.ic (ferr (a.dot b)) 0 ((ferr (a.dot b)) != 0) ?_
     refine Run.kn (fe_T c1) ?_
     refine Run.cV [.bool (a.touch b)] kb (fun _ _ _ H=>rdTouch a b (by omega) (by omega)) ?_
     refine Run.bi [] (cb false) (fun _ _ _ o1 o2 _ ho hx hy=>ex_neq_bool (t:=4) (a.touch b) (a.touch b) Tryz.underlying4 ho hx hy) ?_ (hV:=fun _ _=>congrArg Value.bool (bne_self_eq_false _))
     refine Run.cV [] (.s (.o (.c (.int .i64 0)))) (fun _ _ _ H=>l20num 0) ?_
     refine Run.cV [.bool (a.apt b)] kb (fun _ _ _ H=>rdApt a b (by omega) (by omega)) ?_
     refine Run.bi [] (cb false) (fun _ _ _ o1 o2 _ ho hx hy=>ex_neq_bool (t:=4) (a.apt b) (a.apt b) Tryz.underlying4 ho hx hy) ?_ (hV:=fun _ _=>congrArg Value.bool (bne_self_eq_false _))
     refine Run.cV [] (.s (.o (.c (.int .i64 0)))) (fun _ _ _ H=>l20num 0) ?_
     refine Run.cV [.bool (a.touch b)] kb (fun _ _ _ H=>rdTouch a b (by omega) (by omega)) ?_
     refine (Bool.eq_false_or_eq_true (a.touch b)).elim (fun c2=>?_) (fun c2=>?_)
     · refine Run.kn c2 ?_
       refine Run.cV (rpnC (pnR (a.kis b))).toList (.s (.agg (ks 0 9))) (fun _ _ _ H=>rdKiss a b (by omega) (by omega)) ?_
       refine Run.cV [.bool (pnfits (a.kis b))] kb (fun _ _ _ H=>r8PF (a.kis b)) ?_
       refine (Bool.eq_false_or_eq_true (pnfits (a.kis b))).elim (fun c3=>?_) (fun c3=>?_)
       · refine Run.kn c3 ?_
         refine Run.bi [] (cb true) (fun _ _ _ o1 o2 _ ho hx hy=>ex_eql_pn (r:=kisR a b) (q:=pnR (a.kis b)) o1 o2 ho hx hy (kr_T c2 c3)) ?_
         refine Run.cV [.int .i64 (kisE a b)] kb (fun _ _ _ H=>l20num (kisE a b)) ?_
         refine Run.ic (kisE a b) 0 ((kisE a b) == 0) ?_
         refine Run.kn (ke_T c2 c3) ?_
         refine Run.cV [] (cb true) (fun _ _ _ H=>l20works) ?_
         exact Run.rV rfl
       · refine Run.kn c3 ?_
         refine Run.cV [.bool (pnfits (a.kis b))] kb (fun _ _ _ H=>r8PF (a.kis b)) ?_
         refine Run.kn c3 ?_
         refine Run.bi [] (cb true) (fun _ _ _ o1 o2 _ ho hx hy=>ex_eql_pn (r:=kisR a b) (q:=rzPn) o1 o2 ho hx hy (kr_N c2 c3)) ?_
         refine Run.cV [.int .i64 (kisE a b)] kb (fun _ _ _ H=>l20num (kisE a b)) ?_
         refine Run.ic (kisE a b) 4 ((kisE a b) == 4) ?_
         refine Run.kn (ke_N c2 c3) ?_
         refine Run.cV [] (cb true) (fun _ _ _ H=>l20works) ?_
         exact Run.rV rfl
     · refine Run.kn c2 ?_
       refine Run.bi [] (cb true) (fun _ _ _ o1 o2 _ ho hx hy=>ex_eql_pn (r:=kisR a b) (q:=rzPn) o1 o2 ho hx hy (kr_F c2)) ?_
       refine Run.cV [.int .i64 (kisE a b)] kb (fun _ _ _ H=>l20num (kisE a b)) ?_
       refine Run.ic (kisE a b) 300 ((kisE a b) == 300) ?_
       refine Run.kn (ke_F c2) ?_
       refine Run.cV [] (cb true) (fun _ _ _ H=>l20works) ?_
       exact Run.rV rfl
   · refine Run.kn c1 ?_
     refine Run.bi [.bool (!decide (fcut (a.dot b)=rz.re))] kb (fun _ _ _ o1 o2 _ ho hx hy=>ex_neq_frac (r:=fcut (a.dot b)) (q:=rz.re) o1 o2 ho hx hy rfl) ?_
     refine Run.kn (ft_F c1) ?_
     refine Run.cV [.int .i64 (ferr (a.dot b))] kb (fun _ _ _ H=>l20num (ferr (a.dot b))) ?_
     refine Run.ic (ferr (a.dot b)) 4 ((ferr (a.dot b)) != 4) ?_
     refine Run.kn (fe_F c1) ?_
     refine Run.cV [.bool (fits (rf (a.dot b)))] kb (fun _ _ _ H=>fFits (rf (a.dot b))) ?_
     refine Run.kn c1 ?_
     refine Run.cV [.bool (a.touch b)] kb (fun _ _ _ H=>rdTouch a b (by omega) (by omega)) ?_
     refine Run.bi [] (cb false) (fun _ _ _ o1 o2 _ ho hx hy=>ex_neq_bool (t:=4) (a.touch b) (a.touch b) Tryz.underlying4 ho hx hy) ?_ (hV:=fun _ _=>congrArg Value.bool (bne_self_eq_false _))
     refine Run.cV [] (.s (.o (.c (.int .i64 0)))) (fun _ _ _ H=>l20num 0) ?_
     refine Run.cV [.bool (a.apt b)] kb (fun _ _ _ H=>rdApt a b (by omega) (by omega)) ?_
     refine Run.bi [] (cb false) (fun _ _ _ o1 o2 _ ho hx hy=>ex_neq_bool (t:=4) (a.apt b) (a.apt b) Tryz.underlying4 ho hx hy) ?_ (hV:=fun _ _=>congrArg Value.bool (bne_self_eq_false _))
     refine Run.cV [] (.s (.o (.c (.int .i64 0)))) (fun _ _ _ H=>l20num 0) ?_
     refine Run.cV [.bool (a.touch b)] kb (fun _ _ _ H=>rdTouch a b (by omega) (by omega)) ?_
     refine (Bool.eq_false_or_eq_true (a.touch b)).elim (fun c4=>?_) (fun c4=>?_)
     · refine Run.kn c4 ?_
       refine Run.cV (rpnC (pnR (a.kis b))).toList (.s (.agg (ks 0 9))) (fun _ _ _ H=>rdKiss a b (by omega) (by omega)) ?_
       refine Run.cV [.bool (pnfits (a.kis b))] kb (fun _ _ _ H=>r8PF (a.kis b)) ?_
       refine (Bool.eq_false_or_eq_true (pnfits (a.kis b))).elim (fun c5=>?_) (fun c5=>?_)
       · refine Run.kn c5 ?_
         refine Run.bi [] (cb true) (fun _ _ _ o1 o2 _ ho hx hy=>ex_eql_pn (r:=kisR a b) (q:=pnR (a.kis b)) o1 o2 ho hx hy (kr_T c4 c5)) ?_
         refine Run.cV [.int .i64 (kisE a b)] kb (fun _ _ _ H=>l20num (kisE a b)) ?_
         refine Run.ic (kisE a b) 0 ((kisE a b) == 0) ?_
         refine Run.kn (ke_T c4 c5) ?_
         refine Run.cV [] (cb true) (fun _ _ _ H=>l20works) ?_
         exact Run.rV rfl
       · refine Run.kn c5 ?_
         refine Run.cV [.bool (pnfits (a.kis b))] kb (fun _ _ _ H=>r8PF (a.kis b)) ?_
         refine Run.kn c5 ?_
         refine Run.bi [] (cb true) (fun _ _ _ o1 o2 _ ho hx hy=>ex_eql_pn (r:=kisR a b) (q:=rzPn) o1 o2 ho hx hy (kr_N c4 c5)) ?_
         refine Run.cV [.int .i64 (kisE a b)] kb (fun _ _ _ H=>l20num (kisE a b)) ?_
         refine Run.ic (kisE a b) 4 ((kisE a b) == 4) ?_
         refine Run.kn (ke_N c4 c5) ?_
         refine Run.cV [] (cb true) (fun _ _ _ H=>l20works) ?_
         exact Run.rV rfl
     · refine Run.kn c4 ?_
       refine Run.bi [] (cb true) (fun _ _ _ o1 o2 _ ho hx hy=>ex_eql_pn (r:=kisR a b) (q:=rzPn) o1 o2 ho hx hy (kr_F c4)) ?_
       refine Run.cV [.int .i64 (kisE a b)] kb (fun _ _ _ H=>l20num (kisE a b)) ?_
       refine Run.ic (kisE a b) 300 ((kisE a b) == 300) ?_
       refine Run.kn (ke_F c4) ?_
       refine Run.cV [] (cb true) (fun _ _ _ H=>l20works) ?_
       exact Run.rV rfl
 · refine (Bool.eq_false_or_eq_true (cifits (rci a.rim.nrm))).elim (fun c6=>?_) (fun c6=>?_)
   · refine Run.dr ?_
     refine RunD.cV [] (cb true) (fun _ _ _ H=>c11Fits (rci a.rim.nrm)) ?_ (hV:=fun _ _=>congrArg Value.bool c6)
     refine RunD.cV [] (cb true) (fun _ _ _ H=>c11Fits (rci a.rim.nrm)) ?_ (hV:=fun _ _=>congrArg Value.bool c6)
     refine RunD.bi [] (cb false) (fun _ _ _ o1 o2 _ ho hx hy=>ex_neq_ci (r:=cicut a.rim.nrm) (q:=(rci a.rim.nrm)) o1 o2 ho hx hy rfl) ?_ (hV:=fun _ _=>congrArg Value.bool (ct_T c6))
     refine RunD.cV [.int .i64 (cierr a.rim.nrm)] kb (fun _ _ _ H=>l20num (cierr a.rim.nrm)) ?_
     refine RunD.bi [] (cb false) (fun _ _ _ o1 o2 _ ho hx hy=>ex_icmp .neq 3 (cierr a.rim.nrm) 0 (kk:=.i64) rfl ho hx hy) ?_ (hV:=fun _ _=>congrArg Value.bool (ce_T c6))
     refine RunD.cV (ciC a.out).toList (.s (.agg (ks 0 16))) (fun _ _ _ H=>rdOut a) ?_
     refine RunD.bi [] (cb false) (fun _ _ _ o1 o2 _ ho hx hy=>ex_neq_dk (r:=(rci a.out)) (q:=(rci a.out)) o1 o2 ho hx hy ((rci_dec a.out a.out).trans (decide_eq_true rfl))) ?_
     refine RunD.cV [] (.s (.o (.c (.int .i64 0)))) (fun _ _ _ H=>l20num 0) ?_
     refine RunD.en ?_
     refine Run.to 2 ?_
     exact Run.sb J1
   · refine Run.dr ?_
     refine RunD.cV [] (cb false) (fun _ _ _ H=>c11Fits (rci a.rim.nrm)) ?_ (hV:=fun _ _=>congrArg Value.bool c6)
     refine RunD.bi [] (cb false) (fun _ _ _ o1 o2 _ ho hx hy=>ex_neq_ci (r:=cicut a.rim.nrm) (q:=rzCi) o1 o2 ho hx hy rfl) ?_ (hV:=fun _ _=>congrArg Value.bool (ct_F c6))
     refine RunD.cV [.int .i64 (cierr a.rim.nrm)] kb (fun _ _ _ H=>l20num (cierr a.rim.nrm)) ?_
     refine RunD.bi [] (cb false) (fun _ _ _ o1 o2 _ ho hx hy=>ex_icmp .neq 3 (cierr a.rim.nrm) 4 (kk:=.i64) rfl ho hx hy) ?_ (hV:=fun _ _=>congrArg Value.bool (ce_F c6))
     refine RunD.cV [] (cb false) (fun _ _ _ H=>c11Fits (rci a.rim.nrm)) ?_ (hV:=fun _ _=>congrArg Value.bool c6)
     refine RunD.cV (ciC a.out).toList (.s (.agg (ks 0 16))) (fun _ _ _ H=>rdOut a) ?_
     refine RunD.bi [] (cb false) (fun _ _ _ o1 o2 _ ho hx hy=>ex_neq_dk (r:=(rci a.out)) (q:=(rci a.out)) o1 o2 ho hx hy ((rci_dec a.out a.out).trans (decide_eq_true rfl))) ?_
     refine RunD.cV [] (.s (.o (.c (.int .i64 0)))) (fun _ _ _ H=>l20num 0) ?_
     refine RunD.en ?_
     refine Run.to 2 ?_
     exact Run.sb J1
end Go.Proofs.YtcpjdjnaipbieaaGreat
namespace Go.Proofs.YtcpjdjnaipbieaaGreat
open Go.ChangeShapes Go.WideShapes Go.ChangeAt Go.RowKit
theorem list2 {cs:List Value} (h:cs.length=2):∃ a b,cs=[a,b]:=by
 match cs,h with
 | [a,b],_=>exact ⟨a,b,rfl⟩
theorem list4 {cs:List Value} (h:cs.length=4):∃ a b c d,cs=[a,b,c,d]:=by
 match cs,h with
 | [a,b,c,d],_=>exact ⟨a,b,c,d,rfl⟩
theorem list8 {cs:List Value} (h:cs.length=8):∃ a b c d e f g i,cs=[a,b,c,d,e,f,g,i]:=by
 match cs,h with
 | [a,b,c,d,e,f,g,i],_=>exact ⟨a,b,c,d,e,f,g,i,rfl⟩
section
variable {H:Type} {enc:TypeId×Value→H} {w:World} {base:Nat} {spare:Nat→Bool} {held:Bool}
theorem rd_whole {fuel:Nat} {cs:List Value} {x:DataW H×List MemPlace} (h:DataW.trod enc Tryz.prog w base spare held fuel 23 cs=some x):∃ r:RW,cs=(rwC r).toList:=by
 obtain ⟨y0,y1,n,_,hl,h0,h1⟩:=trod_struct2 Tryz.underlying23 h
 obtain ⟨b,e0,_⟩:=DataW.trod_bool Tryz.underlying4 h0
 obtain ⟨s,e1,_,_⟩:=DataW.trod_string Tryz.underlying9 h1
 rw [show Tryz.prog.cellsOf 23=2 by kernel_rfl] at hl
 rw [show Tryz.prog.cellsOf 4=1 by kernel_rfl] at e0
 rw [show Tryz.prog.cellsOf 9=1 by kernel_rfl] at e1
 obtain ⟨u,v,rfl⟩:=list2 hl
 simp only [List.drop_zero,List.take_succ_cons,List.take_zero,List.cons.injEq,and_true] at e0
 simp only [List.drop_succ_cons,List.drop_zero,List.take_succ_cons,List.take_zero,List.cons.injEq,and_true] at e1
 subst e0;subst e1
 exact ⟨⟨b,s⟩,rfl⟩
theorem rd_frac {fuel:Nat} {cs:List Value} {x:DataW H×List MemPlace} (h:DataW.trod enc Tryz.prog w base spare held fuel 25 cs=some x):∃ r:RF,cs=(rfC r).toList:=by
 obtain ⟨y0,y1,n,_,hl,h0,h1⟩:=trod_struct2 Tryz.underlying25 h
 obtain ⟨a,e0⟩:=rd_whole h0
 obtain ⟨b,e1⟩:=rd_whole h1
 rw [show Tryz.prog.cellsOf 25=4 by kernel_rfl] at hl
 rw [show Tryz.prog.cellsOf 23=2 by kernel_rfl] at e0 e1
 obtain ⟨u0,u1,u2,u3,rfl⟩:=list4 hl
 simp only [List.drop_zero,List.drop_succ_cons,List.take_succ_cons,List.take_zero,List.cons.injEq,and_true] at e0 e1
 obtain ⟨rfl,rfl⟩:=e0
 obtain ⟨rfl,rfl⟩:=e1
 exact ⟨⟨a,b⟩,rfl⟩
theorem rd_gauss {fuel:Nat} {cs:List Value} {x:DataW H×List MemPlace} (h:DataW.trod enc Tryz.prog w base spare held fuel 27 cs=some x):∃ r:RG,cs=(rgC r).toList:=by
 obtain ⟨y0,y1,n,_,hl,h0,h1⟩:=trod_struct2 Tryz.underlying27 h
 obtain ⟨a,e0⟩:=rd_frac h0
 obtain ⟨b,e1⟩:=rd_frac h1
 rw [show Tryz.prog.cellsOf 27=8 by kernel_rfl] at hl
 rw [show Tryz.prog.cellsOf 25=4 by kernel_rfl] at e0 e1
 obtain ⟨u0,u1,u2,u3,u4,u5,u6,u7,rfl⟩:=list8 hl
 simp only [List.drop_zero,List.drop_succ_cons,List.take_succ_cons,List.take_zero,List.cons.injEq,and_true] at e0 e1
 obtain ⟨rfl,rfl,rfl,rfl⟩:=e0
 obtain ⟨rfl,rfl,rfl,rfl⟩:=e1
 exact ⟨⟨a,b⟩,rfl⟩
end
section
variable {H:Type} {enc:TypeId×Value→H} {w:World} {base:Nat} {spare:Nat→Bool} {held:Bool}
theorem trod_struct3 {P:Program} {t:TypeId} {f0 f1 f2:Field} {fuel:Nat} {cs:List Value} {x:DataW H×List MemPlace} (ht:P.underlying t=some (.struct #[f0,f1,f2])) (h:DataW.trod enc P w base spare held fuel t cs=some x) :
  ∃ y0 y1 y2 n,cs.length=P.cellsOf t∧DataW.trod enc P w base spare held n f0.type ((cs.drop f0.offset).take (P.cellsOf f0.type))=some y0 ∧
   DataW.trod enc P w base spare held n f1.type ((cs.drop f1.offset).take (P.cellsOf f1.type))=some y1 ∧
   DataW.trod enc P w base spare held n f2.type ((cs.drop f2.offset).take (P.cellsOf f2.type))=some y2:=by
 obtain ⟨xs,n,_,_,hl,hlen,hf⟩:=DataW.trod_struct ht h
 match xs,hlen with
 | [y0,y1,y2],_=>exact ⟨y0,y1,y2,n,hl,by simpa using hf 0 f0 rfl,by simpa using hf 1 f1 rfl,by simpa using hf 2 f2 rfl⟩
theorem cut_at {α:Type} (cs:List α) (n k:Nat):cs.drop n=(cs.drop n).take k++cs.drop (n+k):=by rw [← List.drop_drop];exact (List.take_append_drop k _).symm
theorem rd_pnt {fuel:Nat} {cs:List Value} {x:DataW H×List MemPlace} (h:DataW.trod enc Tryz.prog w base spare held fuel 56 cs=some x):∃ r:RPn,cs=(rpnC r).toList:=by
 obtain ⟨y0,y1,n,_,hl,h0,h1⟩:=trod_struct2 Tryz.underlying56 h
 obtain ⟨b,e0,_⟩:=DataW.trod_bool Tryz.underlying4 h0
 obtain ⟨z,e1⟩:=rd_gauss h1
 rw [show Tryz.prog.cellsOf 56=9 by kernel_rfl] at hl
 rw [show Tryz.prog.cellsOf 4=1 by kernel_rfl] at e0
 rw [show Tryz.prog.cellsOf 27=8 by kernel_rfl] at e1
 refine ⟨⟨b,z⟩,?_⟩
 have e0' : (cs.drop 0).take 1=_:=e0
 have e1' : (cs.drop 1).take 8=_:=e1
 have e3:cs.drop 1=(cs.drop 1).take 8:=(List.take_of_length_le (by rw [List.length_drop,hl];decide)).symm
 have e:cs=(cs.drop 0).take 1++cs.drop 1:=by rw [← cut_at cs 0 1,List.drop_zero]
 rw [e,e3,e0', e1']
 rfl
set_option maxRecDepth 100000 in
theorem open_pnt {r:Reach} {b0:Nat} {v:Value} {d:DataW H} {p:List MemPlace} (hv:Value.okWide Tryz.prog w r b0 56 v) (h:DataW.Trod enc Tryz.prog w base spare held 56 v d p):∃ r:RPn,v=rpnV r:=by
 obtain ⟨cs,rfl,_⟩:=okWide_struct Tryz.underlying56 hv
 obtain ⟨fuel,hf⟩:=h
 obtain ⟨r,e⟩:=rd_pnt hf
 exact ⟨r,by rw [show cs=rpnC r from Array.ext' e]⟩
end
section
variable {H:Type} {enc:TypeId×Value→H} {w:World} {base:Nat} {spare:Nat→Bool} {held:Bool}
theorem rd_disk {fuel:Nat} {cs:List Value} {x:DataW H×List MemPlace} (h:DataW.trod enc Tryz.prog w base spare held fuel 29 cs=some x):∃ r:RCi,cs=(rciC r).toList:=by
 obtain ⟨y0,y1,y2,n,hl,h0,h1,h2⟩:=trod_struct3 Tryz.underlying29 h
 obtain ⟨a,e0⟩:=rd_frac h0
 obtain ⟨b,e1⟩:=rd_gauss h1
 obtain ⟨c,e2⟩:=rd_frac h2
 rw [show Tryz.prog.cellsOf 29=16 by kernel_rfl] at hl
 rw [show Tryz.prog.cellsOf 25=4 by kernel_rfl] at e0 e2
 rw [show Tryz.prog.cellsOf 27=8 by kernel_rfl] at e1
 refine ⟨⟨a,b,c⟩,?_⟩
 have e0' : (cs.drop 0).take 4=_:=e0
 have e1' : (cs.drop 4).take 8=_:=e1
 have e2' : (cs.drop 12).take 4=_:=e2
 have e3:cs.drop 12=(cs.drop 12).take 4:=(List.take_of_length_le (by rw [List.length_drop,hl];decide)).symm
 have e:cs=(cs.drop 0).take 4++((cs.drop 4).take 8++cs.drop 12):=by
  rw [← cut_at cs 4 8,← cut_at cs 0 4,List.drop_zero]
 rw [e,e3,e0', e1', e2']
 rfl
set_option maxRecDepth 100000 in
theorem open_disk {r:Reach} {b0:Nat} {v:Value} {d:DataW H} {p:List MemPlace} (hv:Value.okWide Tryz.prog w r b0 29 v) (h:DataW.Trod enc Tryz.prog w base spare held 29 v d p):∃ r:RCi,v=rciV r:=by
 obtain ⟨cs,rfl,_⟩:=okWide_struct Tryz.underlying29 hv
 obtain ⟨fuel,hf⟩:=h
 obtain ⟨r,e⟩:=rd_disk hf
 exact ⟨r,by rw [show cs=rciC r from Array.ext' e]⟩
end
end Go.Proofs.YtcpjdjnaipbieaaGreat
namespace Go.Proofs.YtcpjdjnaipbieaaGreat
open Go.ChangeShapes Go.WideShapes Go.ChangeAt Go.RowKit Go.WideElems
theorem law_own:ownKnob Tryz.prog.godebug=none:=by kernel_rfl
theorem law_laid:laidOutB Tryz.prog=true:=by kernel_rfl
section
variable {H:Type} {enc:TypeId×Value→H}
theorem trodAll_stays {W W' : World} {sp:Nat→Bool}:∀ {ts:List TypeId} {vs:List Value} {ds:List (DataW H)} {ps:List MemPlace},(∀ t ∈ ts,Tryz.prog.readableRec t=true∧t<Tryz.prog.types.size) →
  DataW.TrodAll enc Tryz.prog W 0 (fun _=>true) true ts vs ds ps→(∀ p ∈ ps,W.sameAt W' p)→(∀ p ∈ ps,sp p.block=true)→DataW.TrodAll enc Tryz.prog W' 0 sp true ts vs ds ps:=by
 intro ts
 induction ts with
 | nil =>
  intro vs ds ps _ h _ _
  obtain ⟨rfl,rfl,rfl⟩:=trodAll_nil h
  exact trodAll_mk0
 | cons t ts ih =>
  intro vs ds ps ht h hs hb
  obtain ⟨v,vs', d,ds', p,p', rfl,rfl,rfl,h0,h1⟩:=trodAll_cons h
  obtain ⟨h2,h3⟩:=ht t (by simp)
  exact trodAll_cons_mk (Trod_stays law_laid h2 h3 h0 (fun q hq=>hs q (by simp [hq])) (fun q hq=>hb q (by simp [hq]))) (ih (fun t ht' => ht t (by simp [ht'])) h1 (fun q hq=>hs q (by simp [hq])) (fun q hq=>hb q (by simp [hq])))
set_option maxRecDepth 100000 in
theorem law_post {f:Func} {s:ChangeSpec} {fresh handsOn again:Bool} {W W' : World} {args:Array Value} {ds gs:List (DataW H)} {before:List MemPlace} (hW:DataW.Whole enc Tryz.prog f.params.toList s.vars false W args.toList ds gs before)
  (hv:s.vars=[]) (hfn:s.fn H ds={ results:=[.lit (.bool true)],args:=ds }) (hr:f.resultTypes=#[4]) (hp:f.params.toList.all (fun t=>Tryz.prog.readableRec t&&decide (t<Tryz.prog.types.size))=true) (hb:Below W.heap.size W W') :
  s.post enc Tryz.prog f false fresh handsOn again W args (.bool true) W' := by
 have hlt:∀ p ∈ before,p.block<W.heap.size:=fun p hq=>hW.lt p hq
 have hW' := hW
 obtain ⟨p,q,hA,hV,rfl,hfz,hnd⟩:=hW
 rw [hv] at hV
 obtain ⟨rfl,rfl⟩:=trodVars_none hV
 have hpar:∀ t ∈ f.params.toList,Tryz.prog.readableRec t=true∧t<Tryz.prog.types.size:=fun t ht=>by
  have:=List.all_eq_true.1 hp t ht
  simpa using this
 have hargs:∀ sp:Nat→Bool,(∀ x ∈ p++[],sp x.block=true)→DataW.TrodAll enc Tryz.prog W' 0 sp true f.params.toList args.toList ds p:=fun sp hs =>
  trodAll_stays hpar hA (fun x hx=>hb.same (hlt x (by simp [hx]))) (fun x hx=>hs x (by simp [hx]))
 have hres:∀ (b:Nat) (sp:Nat→Bool) (hd:Bool),DataW.TrodAll enc Tryz.prog W' b sp hd f.resultTypes.toList (Value.resultList f.resultTypes.size (.bool true)) [.lit (.bool true)] []:=fun _ _ _=>by
  rw [hr]
  exact trodAll_cons_mk (shut_bool Tryz.underlying4 _) trodAll_mk0
 have hold:∀ x ∈ p++[],(fun b=>decide (b<W.heap.size)) x.block=true:=fun x hx=>by simpa using hlt x hx
 have hfn' : s.fn H (ds++[])={ results:=[.lit (.bool true)],args:=ds }:=by rw [List.append_nil];exact hfn
 refine ⟨ds,[],p++[],[],p,[],hW', by rw [hfn'];exact hres _ _ _,by rw [hfn'];exact hargs _ hold,by rw [hv,hfn'];rfl,World.keptBut_mono (fun x hx=>⟨hx,?_⟩) (hb.frame (· ∈ p++[])),fun _=>?_⟩
 ·simpa using hx
 ·refine ⟨ok_one hr rfl (okWide_bool_mk Tryz.underlying4 _),_,[],([]++p)++[],⟨[]++p,[],trodAll_append (hargs _ (fun _ _=>rfl)) (hres _ _ _),by rw [hv];rfl,rfl,?_,?_⟩,?_⟩
  ·intro b off hx
   have hin:MemPlace.cell b off ∈ p++[]:=by simpa using hx
   rw [hb.frozen (hlt _ hin)]
   exact hfz b off hin
  ·intro ha
   have:=hnd ha
   simpa using this
  ·intro x hx _
   simpa using hx
end
end Go.Proofs.YtcpjdjnaipbieaaGreat
namespace Go.Proofs.YtcpjdjnaipbieaaGreat.diskTellsLaw
open Go.ChangeShapes Go.WideShapes Go.ChangeAt Go.RowKit
theorem lLaw {W:World} (a b:RCi) (p:RPn):Calls Tryz.prog 11 #[rciV a,rciV b,rpnV p] W (RetV (.bool true) W):=by
 cases h:(lgK a||lgK b) with
 | true=>exact lDt0 a b p h
 | false=>cases h1:lgE p.z with
  | true=>exact lDt1 a b p h h1
  | false=>cases h2:dsOk a with
   | false=>exact lDt2 a b p h h1 h2
   | true =>
    obtain ⟨a,rfl,_⟩:=dsOk_ex h2
    cases h3:dsOk b with
    | false=>cases h4:pnOk p with
     | false=>exact lDt3 a b p h h1 h2 h3 h4
     | true =>
      obtain ⟨P,rfl,hP⟩:=pnOk_ex h4
      exact lDt4 P a b h h1 h2 h3 hP
    | true =>
     obtain ⟨b,rfl,_⟩:=dsOk_ex h3
     cases h4:pnOk p with
     | false=>exact lDt5 a b p h h1 h2 h3 h4
     | true =>
      obtain ⟨P,rfl,hP⟩:=pnOk_ex h4
      exact lDt6 P a b h h1 h2 h3 hP
set_option maxRecDepth 100000 in
theorem contract (H:Type) (enc:TypeId×Value→H) (W:World) (base:Nat) (args:Array Value) (ds gs:List (DataW H)) (before:List MemPlace)
  (hval:∀ (j:Nat) t v,Tryz.f11.params[j]? = some t→args[j]? = some v→Value.okWide Tryz.prog W .any base t v)
  (hW:DataW.Whole enc Tryz.prog Tryz.f11.params.toList Rows.diskTellsSpec.vars false W args.toList ds gs before) :
  Calls Tryz.prog 11 args W fun e W' => ∃ v,e=.returned v∧Rows.diskTellsSpec.post enc Tryz.prog Tryz.f11 false true false false W args v W' := by
 have hW' := hW
 obtain ⟨p,q,hA,hV,rfl,hfz,hnd⟩:=hW
 rw [Tryz.params11] at hA hval
 obtain ⟨v0,vs0,d0,ds0,p0,q0,hargs,rfl,rfl,h0,r0⟩:=trodAll_cons hA
 obtain ⟨v1,vs1,d1,ds1,p1,q1,rfl,rfl,rfl,h1,r1⟩:=trodAll_cons r0
 obtain ⟨v2,vs2,d2,ds2,p2,q2,rfl,rfl,rfl,h2,r2⟩:=trodAll_cons r1
 obtain ⟨rfl,rfl,rfl⟩:=trodAll_nil r2
 obtain rfl:args=#[v0,v1,v2]:=by cases args;simp_all
 obtain ⟨rfl,rfl⟩:=trodVars_none hV
 obtain ⟨a,rfl⟩:=open_disk (hval 0 _ v0 rfl rfl) h0
 obtain ⟨b,rfl⟩:=open_disk (hval 1 _ v1 rfl rfl) h1
 obtain ⟨p,rfl⟩:=open_pnt (hval 2 _ v2 rfl rfl) h2
 refine (lLaw a b p).mono fun e W' h=>?_
 obtain ⟨h1,h2⟩:=h.is
 exact ⟨_,h1,law_post hW' rfl rfl rfl (by kernel_rfl) h2⟩
set_option maxRecDepth 100000 in
theorem lifted (os:Os) (started:os.Started) (H:Type) (enc:TypeId×Value→H) :
  ReturnsInHanded {} Tryz.checked os 11 .any (Rows.diskTellsSpec.pre6 enc Tryz.prog Tryz.f11 Rows.diskTellsRow.domain false) (Rows.diskTellsSpec.post enc Tryz.prog Tryz.f11 false true false false):=by
 refine returnsInHanded_of_change (C:=Tryz.checked) law_own started (by kernel_rfl) Tryz.func11
  (ChangeSpec.witness6 (enc:=enc) (C:=Tryz.checked) false ⟨#[],#[.agg #[.bool false,.string ⟨#[]⟩,.bool false,.string ⟨#[]⟩,.bool false,.string ⟨#[]⟩,.bool false,.string ⟨#[]⟩,.bool false,.string ⟨#[]⟩,.bool false,.string ⟨#[]⟩,.bool false,.string ⟨#[]⟩,.bool false,.string ⟨#[]⟩],.agg #[.bool false,.string ⟨#[]⟩,.bool false,.string ⟨#[]⟩,.bool false,.string ⟨#[]⟩,.bool false,.string ⟨#[]⟩,.bool false,.string ⟨#[]⟩,.bool false,.string ⟨#[]⟩,.bool false,.string ⟨#[]⟩,.bool false,.string ⟨#[]⟩],.agg #[.bool false,.bool false,.string ⟨#[]⟩,.bool false,.string ⟨#[]⟩,.bool false,.string ⟨#[]⟩,.bool false,.string ⟨#[]⟩]],[]⟩ 8 (by kernel_rfl) (by kernel_rfl) (by kernel_rfl) (by kernel_rfl)) ?_
 intro W base args ds gs before hval hW _ _
 exact contract H enc W base args ds gs before hval hW
theorem kA:Tryz.pinned.checked.prog.funcNamed Rows.diskTellsRow.func=some 11:=by kernel_rfl
theorem laidP:laidOutB Tryz.pinned.checked.prog=true:=law_laid
set_option maxRecDepth 100000 in
set_option maxHeartbeats 4000000 in
theorem kB:joinedFacts Tryz.pinned.checked.prog 11 Tryz.f11 Rows.diskTellsSpec Rows.diskTellsRow=true:=by
 unfold joinedFacts
 simp only [Bool.and_eq_true]
 repeat' apply And.intro
 all_goals first|with_reducible exact laidP|as_aux_lemma=>kernel_rfl
theorem kC:Tryz.f11.isInstance Tryz.pinned.checked.prog Rows.diskTellsRow.origin Rows.diskTellsRow.targs:=of_decide_eq_true (by kernel_rfl)
theorem kD:Tryz.f11.isWrapper Tryz.pinned.checked.prog Rows.diskTellsRow.wrapper Rows.diskTellsRow.mainSum:=by
 unfold Func.isWrapper;first|(rw [if_pos (by decide +kernel)];kernel_rfl)|(rw [if_neg (by decide +kernel)];exact ⟨rfl,rfl⟩)
theorem over:Rows.DiskTellsSaid :=
 OpenClaim.holds_of_wide 11 Tryz.f11 rfl rfl rfl rfl rfl rfl rfl ⟨rfl,rfl,rfl,rfl,rfl⟩ rfl rfl rfl rfl rfl kA Tryz.func11 kB kC kD
  (fun os started H enc _=>lifted os started H enc)
end Go.Proofs.YtcpjdjnaipbieaaGreat.diskTellsLaw
namespace Go.Proofs.YtcpjdjnaipbieaaGreat
theorem diskTells_proved:Rows.DiskTellsSaid:=diskTellsLaw.over
end Go.Proofs.YtcpjdjnaipbieaaGreat
