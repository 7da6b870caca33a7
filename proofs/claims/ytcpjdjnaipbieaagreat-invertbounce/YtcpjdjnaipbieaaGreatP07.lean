/- tracerylaw14.InvertBounce returns true for any two circles, any point and any number, and changes nothing that it was handed. No condition. -/
import Derived.Test.YtcpjdjnaipbieaaGreatP06
import Derived.ProofKit
import Derived.OpenShut
import Derived.JoinedCond
import Derived.Deep.Slices
import Derived.Deep.Strs
import Derived.Test.YtcpjdjnaipbieaaGreatRows
import Derived.WalkKit
import Derived.Below
import Derived.ChangeSame
import Derived.WideKeyArgs
import Derived.JoinedOf
import Derived.JoinedAt
set_option linter.unusedVariables false
set_option linter.unusedSimpArgs false
namespace Go.Proofs.YtcpjdjnaipbieaaGreat
open Go.RowKit Rgn Eng
set_option maxHeartbeats 8000000
set_option maxRecDepth 100000
variable {S:Nat→Prop} {W:World}
theorem eqZP (w:World) (o:Oper) (ρ:Operand→Value) (x y:Operand) (t' : TypeId) (ho:o.op=.binOp .eql 56 x y t') (hx:ρ x=rpnV rzPn) (hy:ρ y=rpnV rzPn):(execOp ρ o).run Tryz.prog w=.ok (.value (.bool true)) w:=ex_eql_pn (r:=rzPn) (q:=rzPn) x y ho hx hy (decide_eq_true rfl)
theorem neZP (w:World) (o:Oper) (ρ:Operand→Value) (x y:Operand) (t' : TypeId) (ho:o.op=.binOp .neq 56 x y t') (hx:ρ x=rpnV rzPn) (hy:ρ y=rpnV rzPn):(execOp ρ o).run Tryz.prog w=.ok (.value (.bool false)) w:=ex_neq_pn (r:=rzPn) (q:=rzPn) x y ho hx hy (decide_eq_true rfl)
theorem eqZC (w:World) (o:Oper) (ρ:Operand→Value) (x y:Operand) (t' : TypeId) (ho:o.op=.binOp .eql 47 x y t') (hx:ρ x=rciV rzCi) (hy:ρ y=rciV rzCi):(execOp ρ o).run Tryz.prog w=.ok (.value (.bool true)) w:=ex_eql_ci (r:=rzCi) (q:=rzCi) x y ho hx hy (decide_eq_true rfl)
theorem k1b:HB ⟨1,0⟩ 30000:=⟨by decide +kernel,by decide +kernel⟩
theorem k0b:HB ⟨0,0⟩ 30000:=⟨by decide +kernel,by decide +kernel⟩
theorem st_ub:Mb.st.ub 30000:=by unfold Mb.ub HB;decide +kernel
theorem uF_ub {p:Pn} (h:PnF p):(uF p).ub 30000:=by
 have h1:=hb_cx h.ht
 unfold Mb.ub
 rw [uF_u]
 obtain ⟨h2,h3⟩:=h1.neg
 exact ⟨k0b,k1b,k1b,⟨Nat.le_trans h2 (by decide),Nat.le_trans h3 (by decide)⟩⟩
theorem xF_ub {p:Pn} (h:PnF p):(xF p).ub 30000:=by
 obtain ⟨h2,h3⟩:=hb_cx h.ht
 unfold Mb.ub
 rw [xF_u]
 exact ⟨⟨Nat.le_trans h2 (by decide),Nat.le_trans h3 (by decide)⟩,k1b,k1b,k0b⟩
theorem hsum {m:Mb} (a:HB m.a 20000) (b:HB m.b 20000) (c:HB m.c 20000) (d:HB m.d 20000):ht m.a.re+ht m.a.im+ht m.b.re+ht m.b.im+ht m.c.re+ht m.c.im+ht m.d.re+ht m.d.im≤268435456:=by
 unfold HB at *;omega
theorem h1b:HB ⟨1,0⟩ 20000:=⟨by decide +kernel,by decide +kernel⟩
theorem h0b:HB ⟨0,0⟩ 20000:=⟨by decide +kernel,by decide +kernel⟩
theorem ivCoP (c d:Ci) (P:Pn) (p0:ciOk (rci c)=true) (p1:ciOk (rci d)=true) (p2:PnF P) (p3:(comK c d P).pos=true):Calls Tryz.prog 63 #[ciV c,ciV d,rpnV (pnR P)] W (RetV (.tuple #[rciV (cicut (comK c d P).nrm),.int .i64 (cierr (comK c d P).nrm)]) W):=by
 have q1:=(ciOk_c p0).2.1
 have q2:=(ciOk_c p1).2.1
 cases h:P.inf with
 | true =>
  have hd:xI.det.zero=false:=by decide +kernel
  obtain ⟨g1,g2⟩:=co_gen hd q1 q2 (com_I c d P h)
  rw [← g2 p3]
  have k:=ivCoI (W:=W) c d P p0 p1 p2 h (by rw [xI_s];exact st_ub) (by rw [xI_s,st_u];exact st_ub) hd (undo_det hd) (by rw [xI_s];exact hsum h1b h0b h0b h1b) (by rw [xI_s,st_u];exact hsum h1b h0b h0b h1b)
  rw [← g1,p3] at k
  exact k
 | false =>
  have hd:=xF_d P
  have hz:=hb_cx p2.ht
  obtain ⟨g1,g2⟩:=co_gen hd q1 q2 (com_F c d P h)
  rw [← g2 p3]
  have k:=ivCoF (W:=W) c d P p0 p1 p2 h (xF_ub p2) (by rw [xF_u];exact uF_ub p2) hd (undo_det hd) (by rw [xF_t];exact hsum h0b h1b h1b hz.neg) (by rw [xF_u];exact hsum hz h1b h1b h0b)
  rw [← g1,p3] at k
  exact k
theorem ivCoQ (c d:Ci) (P:Pn) (p0:ciOk (rci c)=true) (p1:ciOk (rci d)=true) (p2:PnF P) (p3:(comK c d P).pos=false):Calls Tryz.prog 63 #[ciV c,ciV d,rpnV (pnR P)] W (RetV (.tuple #[rciV rzCi,.int .i64 7]) W):=by
 have q1:=(ciOk_c p0).2.1
 have q2:=(ciOk_c p1).2.1
 cases h:P.inf with
 | true =>
  have hd:xI.det.zero=false:=by decide +kernel
  obtain ⟨g1,g2⟩:=co_gen hd q1 q2 (com_I c d P h)
  have k:=ivCoI (W:=W) c d P p0 p1 p2 h (by rw [xI_s];exact st_ub) (by rw [xI_s,st_u];exact st_ub) hd (undo_det hd) (by rw [xI_s];exact hsum h1b h0b h0b h1b) (by rw [xI_s,st_u];exact hsum h1b h0b h0b h1b)
  rw [← g1,p3] at k
  exact k
 | false =>
  have hd:=xF_d P
  have hz:=hb_cx p2.ht
  obtain ⟨g1,g2⟩:=co_gen hd q1 q2 (com_F c d P h)
  have k:=ivCoF (W:=W) c d P p0 p1 p2 h (xF_ub p2) (by rw [xF_u];exact uF_ub p2) hd (undo_det hd) (by rw [xF_t];exact hsum h0b h1b h1b hz.neg) (by rw [xF_u];exact hsum hz h1b h1b h0b)
  rw [← g1,p3] at k
  exact k
theorem ivBoAx (c:RCi) (d:RCi) (p:RPn) (n:Int) (p0:ciOk c=false):Calls Tryz.prog 62 #[rciV c,rciV d,rpnV p,.int .i64 n] W (RetV (.tuple #[rpnV rzPn,.int .i64 2]) W):=by
 refine Run.goP (S:=Z0) ((((Pack.nil.k (rciV c) (rciC c).toList (.s (.agg (ks 0 16)))).k (rciV d) (rciC d).toList (.s (.agg (ks 0 16)))).k (rpnV p) (rpnC p).toList (.s (.agg (ks 0 9)))).k (.int .i64 n) [.int .i64 n] (.s (.o (.k 0)))) Tryz.func62 rfl ?_
 refine Run.cV [] (.tup [.o (.c (.slice none 0 0)),.o (.c (.int .i64 2))]) (fun _ _ _ H=>ivWhA c d (H.b 4) p0) ?_
 refine Run.cR spPlaceJK (fun _ _ _ H=>eSpotJ p) ?_
 exact Run.rV rfl
theorem ivBoBx (c:Ci) (d:RCi) (p:RPn) (n:Int) (p0:ciOk (rci c)=true) (p1:ciOk d=false):Calls Tryz.prog 62 #[ciV c,rciV d,rpnV p,.int .i64 n] W (RetV (.tuple #[rpnV rzPn,.int .i64 2]) W):=by
 refine Run.goP (S:=Z0) ((((Pack.nil.k (ciV c) (ciC c).toList (.s (.agg (ks 0 16)))).k (rciV d) (rciC d).toList (.s (.agg (ks 0 16)))).k (rpnV p) (rpnC p).toList (.s (.agg (ks 0 9)))).k (.int .i64 n) [.int .i64 n] (.s (.o (.k 0)))) Tryz.func62 rfl ?_
 refine Run.cV [] (.tup [.o (.c (.slice none 0 0)),.o (.c (.int .i64 2))]) (fun _ _ _ H=>ivWhB c d (H.b 4) p0 p1) ?_
 refine Run.cR spPlaceJK (fun _ _ _ H=>eSpotJ p) ?_
 exact Run.rV rfl
theorem ivBoCx (c:Ci) (d:Ci) (p:RPn) (n:Int) (p0:ciOk (rci c)=true) (p1:ciOk (rci d)=true) (p2:pnOk p=false):Calls Tryz.prog 62 #[ciV c,ciV d,rpnV p,.int .i64 n] W (RetV (.tuple #[rpnV rzPn,.int .i64 2]) W):=by
 refine Run.goP (S:=Z0) ((((Pack.nil.k (ciV c) (ciC c).toList (.s (.agg (ks 0 16)))).k (ciV d) (ciC d).toList (.s (.agg (ks 0 16)))).k (rpnV p) (rpnC p).toList (.s (.agg (ks 0 9)))).k (.int .i64 n) [.int .i64 n] (.s (.o (.k 0)))) Tryz.func62 rfl ?_
 refine Run.cB (n:=2) (T:=203) (φs:=ringF [c,d]) (fun _ _ _ H=>(ivWhY c d (H.b 4) p0 p1).mono fun _ _ h=>retRow_B h) (fun cap=>?_)
 refine Run.cR spPlaceJK (fun _ _ _ H=>eSpotJ p) ?_
 refine Run.kn p2 ?_
 exact Run.rV rfl
theorem ivCoAx (c:RCi) (d:RCi) (p:RPn) (p0:ciOk c=false):Calls Tryz.prog 63 #[rciV c,rciV d,rpnV p] W (RetV (.tuple #[rciV rzCi,.int .i64 2]) W):=by
 refine Run.goP (S:=Z0) (((Pack.nil.k (rciV c) (rciC c).toList (.s (.agg (ks 0 16)))).k (rciV d) (rciC d).toList (.s (.agg (ks 0 16)))).k (rpnV p) (rpnC p).toList (.s (.agg (ks 0 9)))) Tryz.func63 rfl ?_
 refine Run.cV [] (.tup [.o (.c (.slice none 0 0)),.o (.c (.int .i64 2))]) (fun _ _ _ H=>ivWhA c d (H.b 4) p0) ?_
 refine Run.cR spPlaceJK (fun _ _ _ H=>eSpotJ p) ?_
 exact Run.rV rfl
theorem ivCoBx (c:Ci) (d:RCi) (p:RPn) (p0:ciOk (rci c)=true) (p1:ciOk d=false):Calls Tryz.prog 63 #[ciV c,rciV d,rpnV p] W (RetV (.tuple #[rciV rzCi,.int .i64 2]) W):=by
 refine Run.goP (S:=Z0) (((Pack.nil.k (ciV c) (ciC c).toList (.s (.agg (ks 0 16)))).k (rciV d) (rciC d).toList (.s (.agg (ks 0 16)))).k (rpnV p) (rpnC p).toList (.s (.agg (ks 0 9)))) Tryz.func63 rfl ?_
 refine Run.cV [] (.tup [.o (.c (.slice none 0 0)),.o (.c (.int .i64 2))]) (fun _ _ _ H=>ivWhB c d (H.b 4) p0 p1) ?_
 refine Run.cR spPlaceJK (fun _ _ _ H=>eSpotJ p) ?_
 exact Run.rV rfl
theorem ivCoCx (c:Ci) (d:Ci) (p:RPn) (p0:ciOk (rci c)=true) (p1:ciOk (rci d)=true) (p2:pnOk p=false):Calls Tryz.prog 63 #[ciV c,ciV d,rpnV p] W (RetV (.tuple #[rciV rzCi,.int .i64 2]) W):=by
 refine Run.goP (S:=Z0) (((Pack.nil.k (ciV c) (ciC c).toList (.s (.agg (ks 0 16)))).k (ciV d) (ciC d).toList (.s (.agg (ks 0 16)))).k (rpnV p) (rpnC p).toList (.s (.agg (ks 0 9)))) Tryz.func63 rfl ?_
 refine Run.cB (n:=2) (T:=203) (φs:=ringF [c,d]) (fun _ _ _ H=>(ivWhY c d (H.b 4) p0 p1).mono fun _ _ h=>retRow_B h) (fun cap=>?_)
 refine Run.cR spPlaceJK (fun _ _ _ H=>eSpotJ p) ?_
 refine Run.kn p2 ?_
 exact Run.rV rfl
theorem ivBoDx (c d:Ci) (P:Pn) (n:Int) (p0:ciOk (rci c)=true) (p1:ciOk (rci d)=true) (p2:PnF P) (p3:n<0):Calls Tryz.prog 62 #[ciV c,ciV d,rpnV (pnR P),.int .i64 n] W (RetV (.tuple #[rpnV rzPn,.int .i64 2]) W):=by
 refine Run.goP (S:=Z0) ((((Pack.nil.k (ciV c) (ciC c).toList (.s (.agg (ks 0 16)))).k (ciV d) (ciC d).toList (.s (.agg (ks 0 16)))).k (rpnV (pnR P)) (rpnC (pnR P)).toList (.s (.agg (ks 0 9)))).k (.int .i64 n) [.int .i64 n] (.s (.o (.k 0)))) Tryz.func62 rfl ?_
 refine Run.cB (n:=2) (T:=203) (φs:=ringF [c,d]) (fun _ _ _ H=>(ivWhY c d (H.b 4) p0 p1).mono fun _ _ h=>retRow_B h) (fun cap=>?_)
 refine Run.cR (spPlaceC true) (fun _ _ _ H=>eSpotP P p2) ?_
 refine Run.ik .lss n 0 true (dT (by omega)) ?_
 exact Run.rV rfl
theorem ivBoEx (c d:Ci) (P:Pn) (n:Int) (p0:ciOk (rci c)=true) (p1:ciOk (rci d)=true) (p2:PnF P) (p3:256<n):Calls Tryz.prog 62 #[ciV c,ciV d,rpnV (pnR P),.int .i64 n] W (RetV (.tuple #[rpnV rzPn,.int .i64 2]) W):=by
 refine Run.goP (S:=Z0) ((((Pack.nil.k (ciV c) (ciC c).toList (.s (.agg (ks 0 16)))).k (ciV d) (ciC d).toList (.s (.agg (ks 0 16)))).k (rpnV (pnR P)) (rpnC (pnR P)).toList (.s (.agg (ks 0 9)))).k (.int .i64 n) [.int .i64 n] (.s (.o (.k 0)))) Tryz.func62 rfl ?_
 refine Run.cB (n:=2) (T:=203) (φs:=ringF [c,d]) (fun _ _ _ H=>(ivWhY c d (H.b 4) p0 p1).mono fun _ _ h=>retRow_B h) (fun cap=>?_)
 refine Run.cR (spPlaceC true) (fun _ _ _ H=>eSpotP P p2) ?_
 refine Run.ik .lss n 0 false (dF (by omega)) ?_
 refine Run.ik .gtr n 256 true (dT (by omega)) ?_
 exact Run.rV rfl
theorem ivCoT (c d:Ci) (P:Pn) (p0:ciOk (rci c)=true) (p1:ciOk (rci d)=true) (p2:PnF P):Calls Tryz.prog 63 #[ciV c,ciV d,rpnV (pnR P)] W (RetV (coV (comK c d P).pos (comK c d P).nrm) W):=by
 cases h:(comK c d P).pos with
 | true=>exact ivCoP c d P p0 p1 p2 h
 | false=>exact ivCoQ c d P p0 p1 p2 h
theorem lBo0 (c:RCi) (d:RCi) (p:RPn) (n:Int) (q0:(lgC c||lgC d)=true):Calls Tryz.prog 9 #[rciV c,rciV d,.agg ⟨(rpnC p).toList++[.int .i64 n]⟩] W (RetV (.bool true) W):=by
 refine Run.goP (S:=Z0) (((Pack.nil.k (rciV c) (rciC c).toList (.s (.agg (ks 0 16)))).k (rciV d) (rciC d).toList (.s (.agg (ks 0 16)))).k (.agg ⟨(rpnC p).toList++[.int .i64 n]⟩) ((rpnC p).toList++[.int .i64 n]) (.s (.agg (ks 0 10)))) Tryz.func9 rfl ?_
 refine Run.dr ?_
 refine RunD.en ?_
 refine Run.cV [.bool (lgC c||lgC d)] kb (fun _ _ _ H=>l14wide c d (H.b 4)) ?_
 refine Run.kn q0 ?_
 refine Run.cV [] (cb true) (fun _ _ _ H=>l14works) ?_
 exact Run.rV rfl
theorem lBo1 (c:RCi) (d:RCi) (p:RPn) (n:Int) (q0:(lgC c||lgC d)=false) (q1:lgG p.z=true):Calls Tryz.prog 9 #[rciV c,rciV d,.agg ⟨(rpnC p).toList++[.int .i64 n]⟩] W (RetV (.bool true) W):=by
 refine Run.goP (S:=Z0) (((Pack.nil.k (rciV c) (rciC c).toList (.s (.agg (ks 0 16)))).k (rciV d) (rciC d).toList (.s (.agg (ks 0 16)))).k (.agg ⟨(rpnC p).toList++[.int .i64 n]⟩) ((rpnC p).toList++[.int .i64 n]) (.s (.agg (ks 0 10)))) Tryz.func9 rfl ?_
 refine Run.dr ?_
 refine RunD.en ?_
 refine Run.cV [.bool (lgC c||lgC d)] kb (fun _ _ _ H=>l14wide c d (H.b 4)) ?_
 refine Run.kn q0 ?_
 refine Run.cV [.bool (lgG p.z)] kb (fun _ _ _ H=>l14long1 p.z (H.b 5)) ?_
 refine Run.kn q1 ?_
 refine Run.cV [] (cb true) (fun _ _ _ H=>l14works) ?_
 exact Run.rV rfl
theorem lBo2 (c:RCi) (d:RCi) (p:RPn) (n:Int) (q0:(lgC c||lgC d)=false) (q1:lgG p.z=false) (q2:30<n) (q3:n≤256):Calls Tryz.prog 9 #[rciV c,rciV d,.agg ⟨(rpnC p).toList++[.int .i64 n]⟩] W (RetV (.bool true) W):=by
 refine Run.goP (S:=Z0) (((Pack.nil.k (rciV c) (rciC c).toList (.s (.agg (ks 0 16)))).k (rciV d) (rciC d).toList (.s (.agg (ks 0 16)))).k (.agg ⟨(rpnC p).toList++[.int .i64 n]⟩) ((rpnC p).toList++[.int .i64 n]) (.s (.agg (ks 0 10)))) Tryz.func9 rfl ?_
 refine Run.dr ?_
 refine RunD.en ?_
 refine Run.cV [.bool (lgC c||lgC d)] kb (fun _ _ _ H=>l14wide c d (H.b 4)) ?_
 refine Run.kn q0 ?_
 refine Run.cV [.bool (lgG p.z)] kb (fun _ _ _ H=>l14long1 p.z (H.b 5)) ?_
 refine Run.kn q1 ?_
 refine Run.ik .gtr n 30 true (dT (by omega)) ?_
 refine Run.ik .leq n 256 true (dT (by omega)) ?_
 refine Run.cV [] (cb true) (fun _ _ _ H=>l14works) ?_
 exact Run.rV rfl
theorem lBoAS (c:RCi) (d:RCi) (p:RPn) (n:Int) (q0:(lgC c||lgC d)=false) (q1:lgG p.z=false) (q2:n≤30) (q3:ciOk c=false):Calls Tryz.prog 9 #[rciV c,rciV d,.agg ⟨(rpnC p).toList++[.int .i64 n]⟩] W (RetV (.bool true) W):=by
 refine Run.goP (S:=Z0) (((Pack.nil.k (rciV c) (rciC c).toList (.s (.agg (ks 0 16)))).k (rciV d) (rciC d).toList (.s (.agg (ks 0 16)))).k (.agg ⟨(rpnC p).toList++[.int .i64 n]⟩) ((rpnC p).toList++[.int .i64 n]) (.s (.agg (ks 0 10)))) Tryz.func9 rfl ?_
 refine Run.dr ?_
 refine RunD.en ?_
 refine Run.cV [.bool (lgC c||lgC d)] kb (fun _ _ _ H=>l14wide c d (H.b 4)) ?_
 refine Run.kn q0 ?_
 refine Run.cV [.bool (lgG p.z)] kb (fun _ _ _ H=>l14long1 p.z (H.b 5)) ?_
 refine Run.kn q1 ?_
 refine Run.ik .gtr n 30 false (dF (by omega)) ?_
 refine Run.cV (rpnC rzPn).toList (.tup [.agg (ks 0 9),.o (.c (.int .i64 2))]) (fun _ _ _ H=>ivBoAx c d p n q3) ?_
 refine Run.cV (rciC rzCi).toList (.tup [.agg (ks 0 16),.o (.c (.int .i64 2))]) (fun _ _ _ H=>ivCoAx c d p q3) ?_
 refine Run.cV [] (cb false) (fun _ _ _ H=>l14MayN c q3) ?_
 refine Run.bi [] (cb true) eqZP ?_
 refine Run.cV [] (.s (.o (.c (.int .i64 2)))) (fun _ _ _ H=>l14Num 2) ?_
 refine Run.bi [] (cb true) eqZC ?_
 refine Run.cV [] (.s (.o (.c (.int .i64 2)))) (fun _ _ _ H=>l14Num 2) ?_
 refine Run.cV [] (cb true) (fun _ _ _ H=>l14works) ?_
 exact Run.rV rfl
theorem lBoAG (c:RCi) (d:RCi) (p:RPn) (n:Int) (q0:(lgC c||lgC d)=false) (q1:lgG p.z=false) (q2:256<n) (q3:ciOk c=false):Calls Tryz.prog 9 #[rciV c,rciV d,.agg ⟨(rpnC p).toList++[.int .i64 n]⟩] W (RetV (.bool true) W):=by
 refine Run.goP (S:=Z0) (((Pack.nil.k (rciV c) (rciC c).toList (.s (.agg (ks 0 16)))).k (rciV d) (rciC d).toList (.s (.agg (ks 0 16)))).k (.agg ⟨(rpnC p).toList++[.int .i64 n]⟩) ((rpnC p).toList++[.int .i64 n]) (.s (.agg (ks 0 10)))) Tryz.func9 rfl ?_
 refine Run.dr ?_
 refine RunD.en ?_
 refine Run.cV [.bool (lgC c||lgC d)] kb (fun _ _ _ H=>l14wide c d (H.b 4)) ?_
 refine Run.kn q0 ?_
 refine Run.cV [.bool (lgG p.z)] kb (fun _ _ _ H=>l14long1 p.z (H.b 5)) ?_
 refine Run.kn q1 ?_
 refine Run.ik .gtr n 30 true (dT (by omega)) ?_
 refine Run.ik .leq n 256 false (dF (by omega)) ?_
 refine Run.cV (rpnC rzPn).toList (.tup [.agg (ks 0 9),.o (.c (.int .i64 2))]) (fun _ _ _ H=>ivBoAx c d p n q3) ?_
 refine Run.cV (rciC rzCi).toList (.tup [.agg (ks 0 16),.o (.c (.int .i64 2))]) (fun _ _ _ H=>ivCoAx c d p q3) ?_
 refine Run.cV [] (cb false) (fun _ _ _ H=>l14MayN c q3) ?_
 refine Run.bi [] (cb true) eqZP ?_
 refine Run.cV [] (.s (.o (.c (.int .i64 2)))) (fun _ _ _ H=>l14Num 2) ?_
 refine Run.bi [] (cb true) eqZC ?_
 refine Run.cV [] (.s (.o (.c (.int .i64 2)))) (fun _ _ _ H=>l14Num 2) ?_
 refine Run.cV [] (cb true) (fun _ _ _ H=>l14works) ?_
 exact Run.rV rfl
theorem lBoBS (c:Ci) (d:RCi) (p:RPn) (n:Int) (q0:(lgC (rci c)||lgC d)=false) (q1:lgG p.z=false) (q2:n≤30) (q3:ciOk (rci c)=true) (q4:ciOk d=false):Calls Tryz.prog 9 #[ciV c,rciV d,.agg ⟨(rpnC p).toList++[.int .i64 n]⟩] W (RetV (.bool true) W):=by
 refine Run.goP (S:=Z0) (((Pack.nil.k (ciV c) (ciC c).toList (.s (.agg (ks 0 16)))).k (rciV d) (rciC d).toList (.s (.agg (ks 0 16)))).k (.agg ⟨(rpnC p).toList++[.int .i64 n]⟩) ((rpnC p).toList++[.int .i64 n]) (.s (.agg (ks 0 10)))) Tryz.func9 rfl ?_
 refine Run.dr ?_
 refine RunD.en ?_
 refine Run.cV [.bool (lgC (rci c)||lgC d)] kb (fun _ _ _ H=>l14wide (rci c) d (H.b 4)) ?_
 refine Run.kn q0 ?_
 refine Run.cV [.bool (lgG p.z)] kb (fun _ _ _ H=>l14long1 p.z (H.b 5)) ?_
 refine Run.kn q1 ?_
 refine Run.ik .gtr n 30 false (dF (by omega)) ?_
 refine Run.cV (rpnC rzPn).toList (.tup [.agg (ks 0 9),.o (.c (.int .i64 2))]) (fun _ _ _ H=>ivBoBx c d p n q3 q4) ?_
 refine Run.cV (rciC rzCi).toList (.tup [.agg (ks 0 16),.o (.c (.int .i64 2))]) (fun _ _ _ H=>ivCoBx c d p q3 q4) ?_
 refine Run.cV [] (cb true) (fun _ _ _ H=>l14MayO c q3) ?_
 refine Run.cV [] (cb false) (fun _ _ _ H=>l14MayN d q4) ?_
 refine Run.bi [] (cb true) eqZP ?_
 refine Run.cV [] (.s (.o (.c (.int .i64 2)))) (fun _ _ _ H=>l14Num 2) ?_
 refine Run.bi [] (cb true) eqZC ?_
 refine Run.cV [] (.s (.o (.c (.int .i64 2)))) (fun _ _ _ H=>l14Num 2) ?_
 refine Run.cV [] (cb true) (fun _ _ _ H=>l14works) ?_
 exact Run.rV rfl
theorem lBoBG (c:Ci) (d:RCi) (p:RPn) (n:Int) (q0:(lgC (rci c)||lgC d)=false) (q1:lgG p.z=false) (q2:256<n) (q3:ciOk (rci c)=true) (q4:ciOk d=false):Calls Tryz.prog 9 #[ciV c,rciV d,.agg ⟨(rpnC p).toList++[.int .i64 n]⟩] W (RetV (.bool true) W):=by
 refine Run.goP (S:=Z0) (((Pack.nil.k (ciV c) (ciC c).toList (.s (.agg (ks 0 16)))).k (rciV d) (rciC d).toList (.s (.agg (ks 0 16)))).k (.agg ⟨(rpnC p).toList++[.int .i64 n]⟩) ((rpnC p).toList++[.int .i64 n]) (.s (.agg (ks 0 10)))) Tryz.func9 rfl ?_
 refine Run.dr ?_
 refine RunD.en ?_
 refine Run.cV [.bool (lgC (rci c)||lgC d)] kb (fun _ _ _ H=>l14wide (rci c) d (H.b 4)) ?_
 refine Run.kn q0 ?_
 refine Run.cV [.bool (lgG p.z)] kb (fun _ _ _ H=>l14long1 p.z (H.b 5)) ?_
 refine Run.kn q1 ?_
 refine Run.ik .gtr n 30 true (dT (by omega)) ?_
 refine Run.ik .leq n 256 false (dF (by omega)) ?_
 refine Run.cV (rpnC rzPn).toList (.tup [.agg (ks 0 9),.o (.c (.int .i64 2))]) (fun _ _ _ H=>ivBoBx c d p n q3 q4) ?_
 refine Run.cV (rciC rzCi).toList (.tup [.agg (ks 0 16),.o (.c (.int .i64 2))]) (fun _ _ _ H=>ivCoBx c d p q3 q4) ?_
 refine Run.cV [] (cb true) (fun _ _ _ H=>l14MayO c q3) ?_
 refine Run.cV [] (cb false) (fun _ _ _ H=>l14MayN d q4) ?_
 refine Run.bi [] (cb true) eqZP ?_
 refine Run.cV [] (.s (.o (.c (.int .i64 2)))) (fun _ _ _ H=>l14Num 2) ?_
 refine Run.bi [] (cb true) eqZC ?_
 refine Run.cV [] (.s (.o (.c (.int .i64 2)))) (fun _ _ _ H=>l14Num 2) ?_
 refine Run.cV [] (cb true) (fun _ _ _ H=>l14works) ?_
 exact Run.rV rfl
theorem lBoCS (c:Ci) (d:Ci) (p:RPn) (n:Int) (q0:(lgC (rci c)||lgC (rci d))=false) (q1:lgG p.z=false) (q2:n≤30) (q3:ciOk (rci c)=true) (q4:ciOk (rci d)=true) (q5:pnOk p=false):Calls Tryz.prog 9 #[ciV c,ciV d,.agg ⟨(rpnC p).toList++[.int .i64 n]⟩] W (RetV (.bool true) W):=by
 refine Run.goP (S:=Z0) (((Pack.nil.k (ciV c) (ciC c).toList (.s (.agg (ks 0 16)))).k (ciV d) (ciC d).toList (.s (.agg (ks 0 16)))).k (.agg ⟨(rpnC p).toList++[.int .i64 n]⟩) ((rpnC p).toList++[.int .i64 n]) (.s (.agg (ks 0 10)))) Tryz.func9 rfl ?_
 refine Run.dr ?_
 refine RunD.en ?_
 refine Run.cV [.bool (lgC (rci c)||lgC (rci d))] kb (fun _ _ _ H=>l14wide (rci c) (rci d) (H.b 4)) ?_
 refine Run.kn q0 ?_
 refine Run.cV [.bool (lgG p.z)] kb (fun _ _ _ H=>l14long1 p.z (H.b 5)) ?_
 refine Run.kn q1 ?_
 refine Run.ik .gtr n 30 false (dF (by omega)) ?_
 refine Run.cV (rpnC rzPn).toList (.tup [.agg (ks 0 9),.o (.c (.int .i64 2))]) (fun _ _ _ H=>ivBoCx c d p n q3 q4 q5) ?_
 refine Run.cV (rciC rzCi).toList (.tup [.agg (ks 0 16),.o (.c (.int .i64 2))]) (fun _ _ _ H=>ivCoCx c d p q3 q4 q5) ?_
 refine Run.cV [] (cb true) (fun _ _ _ H=>l14MayO c q3) ?_
 refine Run.cV [] (cb true) (fun _ _ _ H=>l14MayO d q4) ?_
 refine Run.cV [.bool (pnOk p)] kb (fun _ _ _ H=>p11May p) ?_
 refine Run.kn q5 ?_
 refine Run.bi [] (cb true) eqZP ?_
 refine Run.cV [] (.s (.o (.c (.int .i64 2)))) (fun _ _ _ H=>l14Num 2) ?_
 refine Run.bi [] (cb true) eqZC ?_
 refine Run.cV [] (.s (.o (.c (.int .i64 2)))) (fun _ _ _ H=>l14Num 2) ?_
 refine Run.cV [] (cb true) (fun _ _ _ H=>l14works) ?_
 exact Run.rV rfl
theorem lBoCG (c:Ci) (d:Ci) (p:RPn) (n:Int) (q0:(lgC (rci c)||lgC (rci d))=false) (q1:lgG p.z=false) (q2:256<n) (q3:ciOk (rci c)=true) (q4:ciOk (rci d)=true) (q5:pnOk p=false):Calls Tryz.prog 9 #[ciV c,ciV d,.agg ⟨(rpnC p).toList++[.int .i64 n]⟩] W (RetV (.bool true) W):=by
 refine Run.goP (S:=Z0) (((Pack.nil.k (ciV c) (ciC c).toList (.s (.agg (ks 0 16)))).k (ciV d) (ciC d).toList (.s (.agg (ks 0 16)))).k (.agg ⟨(rpnC p).toList++[.int .i64 n]⟩) ((rpnC p).toList++[.int .i64 n]) (.s (.agg (ks 0 10)))) Tryz.func9 rfl ?_
 refine Run.dr ?_
 refine RunD.en ?_
 refine Run.cV [.bool (lgC (rci c)||lgC (rci d))] kb (fun _ _ _ H=>l14wide (rci c) (rci d) (H.b 4)) ?_
 refine Run.kn q0 ?_
 refine Run.cV [.bool (lgG p.z)] kb (fun _ _ _ H=>l14long1 p.z (H.b 5)) ?_
 refine Run.kn q1 ?_
 refine Run.ik .gtr n 30 true (dT (by omega)) ?_
 refine Run.ik .leq n 256 false (dF (by omega)) ?_
 refine Run.cV (rpnC rzPn).toList (.tup [.agg (ks 0 9),.o (.c (.int .i64 2))]) (fun _ _ _ H=>ivBoCx c d p n q3 q4 q5) ?_
 refine Run.cV (rciC rzCi).toList (.tup [.agg (ks 0 16),.o (.c (.int .i64 2))]) (fun _ _ _ H=>ivCoCx c d p q3 q4 q5) ?_
 refine Run.cV [] (cb true) (fun _ _ _ H=>l14MayO c q3) ?_
 refine Run.cV [] (cb true) (fun _ _ _ H=>l14MayO d q4) ?_
 refine Run.cV [.bool (pnOk p)] kb (fun _ _ _ H=>p11May p) ?_
 refine Run.kn q5 ?_
 refine Run.bi [] (cb true) eqZP ?_
 refine Run.cV [] (.s (.o (.c (.int .i64 2)))) (fun _ _ _ H=>l14Num 2) ?_
 refine Run.bi [] (cb true) eqZC ?_
 refine Run.cV [] (.s (.o (.c (.int .i64 2)))) (fun _ _ _ H=>l14Num 2) ?_
 refine Run.cV [] (cb true) (fun _ _ _ H=>l14works) ?_
 exact Run.rV rfl
theorem lBoPN (c:Ci) (d:Ci) (P:Pn) (n:Int) (q0:(lgC (rci c)||lgC (rci d))=false) (q1:lgG (pnR P).z=false) (q2:n<0) (q3:ciOk (rci c)=true) (q4:ciOk (rci d)=true) (q5:PnF P):Calls Tryz.prog 9 #[ciV c,ciV d,.agg ⟨(rpnC (pnR P)).toList++[.int .i64 n]⟩] W (RetV (.bool true) W):=by
 have f1:=cifits_ht (ciOk_c q3).1
 have f2:=cifits_ht (ciOk_c q4).1
 refine Run.goP (S:=Z0) (((Pack.nil.k (ciV c) (ciC c).toList (.s (.agg (ks 0 16)))).k (ciV d) (ciC d).toList (.s (.agg (ks 0 16)))).k (.agg ⟨(rpnC (pnR P)).toList++[.int .i64 n]⟩) ((rpnC (pnR P)).toList++[.int .i64 n]) (.s (.agg (ks 0 10)))) Tryz.func9 rfl ?_
 refine Run.dr ?_
 refine RunD.en ?_
 refine Run.cV [.bool (lgC (rci c)||lgC (rci d))] kb (fun _ _ _ H=>l14wide (rci c) (rci d) (H.b 4)) ?_
 refine Run.kn q0 ?_
 refine Run.cV [.bool (lgG (pnR P).z)] kb (fun _ _ _ H=>l14long1 (pnR P).z (H.b 5)) ?_
 refine Run.kn q1 ?_
 refine Run.ik .gtr n 30 false (dF (by omega)) ?_
 refine Run.cV (rpnC rzPn).toList (.tup [.agg (ks 0 9),.o (.c (.int .i64 2))]) (fun _ _ _ H=>ivBoDx c d P n q3 q4 q5 q2) ?_
 refine Run.cV ((rciC (cond (comK c d P).pos (cicut (comK c d P).nrm) rzCi)).toList++[.int .i64 (cond (comK c d P).pos (cierr (comK c d P).nrm) 7)]) (.tup [.agg (ks 0 16),.o (.k 16)]) (fun _ _ _ H=>ivCoT c d P q3 q4 q5) ?_
 refine Run.cV [] (cb true) (fun _ _ _ H=>l14MayO c q3) ?_
 refine Run.cV [] (cb true) (fun _ _ _ H=>l14MayO d q4) ?_
 refine Run.cV [.bool (pnOk (pnR P))] kb (fun _ _ _ H=>p11May (pnR P)) ?_
 refine Run.kn (pnOk_pnR q5) ?_
 refine Run.ik .lss n 0 true (dT (by omega)) ?_
 refine Run.bi [] (cb false) neZP ?_
 refine Run.cV [] (.s (.o (.c (.int .i64 2)))) (fun _ _ _ H=>l14Num 2) ?_
 cases p4:(comK c d P).pos with
 | true =>
  refine Run.cV (ciC (comK c d P).nrm).toList (.tup [.agg (ks 0 16),.o (.c (.bool true))]) (fun _ _ _ H=>r14CoY c d P f1 f2 q5 p4) ?_
  refine Run.cV [] (cb true) (fun _ _ _ H=>l14isCt (comK c d P).nrm) ?_
  refine Run.cV [] (cb true) (fun _ _ _ H=>l14works) ?_
  exact Run.rV rfl
 | false =>
  refine Run.cV (rciC rzCi).toList (.tup [.agg (ks 0 16),.o (.c (.bool false))]) (fun _ _ _ H=>r14CoN c d P f1 f2 q5 p4) ?_
  refine Run.bi [] (cb true) eqZC ?_
  refine Run.cV [] (.s (.o (.c (.int .i64 7)))) (fun _ _ _ H=>l14Num 7) ?_
  refine Run.cV [] (cb true) (fun _ _ _ H=>l14works) ?_
  exact Run.rV rfl
theorem lBoPS (c:Ci) (d:Ci) (P:Pn) (n:Nat) (q0:(lgC (rci c)||lgC (rci d))=false) (q1:lgG (pnR P).z=false) (q2:n≤30) (q3:ciOk (rci c)=true) (q4:ciOk (rci d)=true) (q5:PnF P):Calls Tryz.prog 9 #[ciV c,ciV d,.agg ⟨(rpnC (pnR P)).toList++[.int .i64 n]⟩] W (RetV (.bool true) W):=by
 have f1:=cifits_ht (ciOk_c q3).1
 have f2:=cifits_ht (ciOk_c q4).1
 refine Run.goP (S:=Z0) (((Pack.nil.k (ciV c) (ciC c).toList (.s (.agg (ks 0 16)))).k (ciV d) (ciC d).toList (.s (.agg (ks 0 16)))).k (.agg ⟨(rpnC (pnR P)).toList++[.int .i64 n]⟩) ((rpnC (pnR P)).toList++[.int .i64 n]) (.s (.agg (ks 0 10)))) Tryz.func9 rfl ?_
 refine Run.dr ?_
 refine RunD.en ?_
 refine Run.cV [.bool (lgC (rci c)||lgC (rci d))] kb (fun _ _ _ H=>l14wide (rci c) (rci d) (H.b 4)) ?_
 refine Run.kn q0 ?_
 refine Run.cV [.bool (lgG (pnR P).z)] kb (fun _ _ _ H=>l14long1 (pnR P).z (H.b 5)) ?_
 refine Run.kn q1 ?_
 refine Run.ik .gtr n 30 false (dF (by omega)) ?_
 refine Run.cV ((rpnC (bnc c d 0 n P).1).toList++[.int .i64 (bnc c d 0 n P).2]) (.tup [.agg (ks 0 9),.o (.k 9)]) (fun _ _ _ H=>ivBo c d P n q3 q4 q5 q2) ?_
 refine Run.cV ((rciC (cond (comK c d P).pos (cicut (comK c d P).nrm) rzCi)).toList++[.int .i64 (cond (comK c d P).pos (cierr (comK c d P).nrm) 7)]) (.tup [.agg (ks 0 16),.o (.k 16)]) (fun _ _ _ H=>ivCoT c d P q3 q4 q5) ?_
 refine Run.cV [] (cb true) (fun _ _ _ H=>l14MayO c q3) ?_
 refine Run.cV [] (cb true) (fun _ _ _ H=>l14MayO d q4) ?_
 refine Run.cV [.bool (pnOk (pnR P))] kb (fun _ _ _ H=>p11May (pnR P)) ?_
 refine Run.kn (pnOk_pnR q5) ?_
 refine Run.ik .lss n 0 false (dF (by omega)) ?_
 refine Run.ik .gtr n 256 false (dF (by omega)) ?_
 refine Run.cV ((rpnC (bnc c d 0 n P).1).toList++[.int .i64 (bnc c d 0 n P).2]) (.tup [.agg (ks 0 9),.o (.k 9)]) (fun _ _ _ H=>r14Bo c d P n q3 q4 q5 q2) ?_
 refine Run.bi [] (cb false) (fun _ _ _ o1 o2 _ ho hx hy=>ex_neq_pn (r:=(bnc c d 0 n P).1) (q:=(bnc c d 0 n P).1) o1 o2 ho hx hy (decide_eq_true rfl)) ?_
 refine Run.cV [.int .i64 (bnc c d 0 n P).2] kb (fun _ _ _ H=>l14Num (bnc c d 0 n P).2) ?_
 refine Run.ik .neq (bnc c d 0 n P).2 (bnc c d 0 n P).2 false (show some (((bnc c d 0 n P).2 != (bnc c d 0 n P).2))=some false by simp) ?_
 cases p4:(comK c d P).pos with
 | true =>
  refine Run.cV (ciC (comK c d P).nrm).toList (.tup [.agg (ks 0 16),.o (.c (.bool true))]) (fun _ _ _ H=>r14CoY c d P f1 f2 q5 p4) ?_
  refine Run.cV [] (cb true) (fun _ _ _ H=>l14isCt (comK c d P).nrm) ?_
  refine Run.cV [] (cb true) (fun _ _ _ H=>l14works) ?_
  exact Run.rV rfl
 | false =>
  refine Run.cV (rciC rzCi).toList (.tup [.agg (ks 0 16),.o (.c (.bool false))]) (fun _ _ _ H=>r14CoN c d P f1 f2 q5 p4) ?_
  refine Run.bi [] (cb true) eqZC ?_
  refine Run.cV [] (.s (.o (.c (.int .i64 7)))) (fun _ _ _ H=>l14Num 7) ?_
  refine Run.cV [] (cb true) (fun _ _ _ H=>l14works) ?_
  exact Run.rV rfl
theorem lBoPG (c:Ci) (d:Ci) (P:Pn) (n:Int) (q0:(lgC (rci c)||lgC (rci d))=false) (q1:lgG (pnR P).z=false) (q2:256<n) (q3:ciOk (rci c)=true) (q4:ciOk (rci d)=true) (q5:PnF P):Calls Tryz.prog 9 #[ciV c,ciV d,.agg ⟨(rpnC (pnR P)).toList++[.int .i64 n]⟩] W (RetV (.bool true) W):=by
 have f1:=cifits_ht (ciOk_c q3).1
 have f2:=cifits_ht (ciOk_c q4).1
 refine Run.goP (S:=Z0) (((Pack.nil.k (ciV c) (ciC c).toList (.s (.agg (ks 0 16)))).k (ciV d) (ciC d).toList (.s (.agg (ks 0 16)))).k (.agg ⟨(rpnC (pnR P)).toList++[.int .i64 n]⟩) ((rpnC (pnR P)).toList++[.int .i64 n]) (.s (.agg (ks 0 10)))) Tryz.func9 rfl ?_
 refine Run.dr ?_
 refine RunD.en ?_
 refine Run.cV [.bool (lgC (rci c)||lgC (rci d))] kb (fun _ _ _ H=>l14wide (rci c) (rci d) (H.b 4)) ?_
 refine Run.kn q0 ?_
 refine Run.cV [.bool (lgG (pnR P).z)] kb (fun _ _ _ H=>l14long1 (pnR P).z (H.b 5)) ?_
 refine Run.kn q1 ?_
 refine Run.ik .gtr n 30 true (dT (by omega)) ?_
 refine Run.ik .leq n 256 false (dF (by omega)) ?_
 refine Run.cV (rpnC rzPn).toList (.tup [.agg (ks 0 9),.o (.c (.int .i64 2))]) (fun _ _ _ H=>ivBoEx c d P n q3 q4 q5 q2) ?_
 refine Run.cV ((rciC (cond (comK c d P).pos (cicut (comK c d P).nrm) rzCi)).toList++[.int .i64 (cond (comK c d P).pos (cierr (comK c d P).nrm) 7)]) (.tup [.agg (ks 0 16),.o (.k 16)]) (fun _ _ _ H=>ivCoT c d P q3 q4 q5) ?_
 refine Run.cV [] (cb true) (fun _ _ _ H=>l14MayO c q3) ?_
 refine Run.cV [] (cb true) (fun _ _ _ H=>l14MayO d q4) ?_
 refine Run.cV [.bool (pnOk (pnR P))] kb (fun _ _ _ H=>p11May (pnR P)) ?_
 refine Run.kn (pnOk_pnR q5) ?_
 refine Run.ik .lss n 0 false (dF (by omega)) ?_
 refine Run.ik .gtr n 256 true (dT (by omega)) ?_
 refine Run.bi [] (cb false) neZP ?_
 refine Run.cV [] (.s (.o (.c (.int .i64 2)))) (fun _ _ _ H=>l14Num 2) ?_
 cases p4:(comK c d P).pos with
 | true =>
  refine Run.cV (ciC (comK c d P).nrm).toList (.tup [.agg (ks 0 16),.o (.c (.bool true))]) (fun _ _ _ H=>r14CoY c d P f1 f2 q5 p4) ?_
  refine Run.cV [] (cb true) (fun _ _ _ H=>l14isCt (comK c d P).nrm) ?_
  refine Run.cV [] (cb true) (fun _ _ _ H=>l14works) ?_
  exact Run.rV rfl
 | false =>
  refine Run.cV (rciC rzCi).toList (.tup [.agg (ks 0 16),.o (.c (.bool false))]) (fun _ _ _ H=>r14CoN c d P f1 f2 q5 p4) ?_
  refine Run.bi [] (cb true) eqZC ?_
  refine Run.cV [] (.s (.o (.c (.int .i64 7)))) (fun _ _ _ H=>l14Num 7) ?_
  refine Run.cV [] (cb true) (fun _ _ _ H=>l14works) ?_
  exact Run.rV rfl
end Go.Proofs.YtcpjdjnaipbieaaGreat
namespace Go.Proofs.YtcpjdjnaipbieaaGreat
open Go.ChangeShapes Go.WideShapes Go.ChangeAt Go.RowKit
theorem list2 {cs:List Value} (h:cs.length=2):∃ a b,cs=[a,b]:=by
 match cs,h with
 | [a,b],_=>exact ⟨a,b,rfl⟩
theorem list4 {cs:List Value} (h:cs.length=4):∃ a b c d,cs=[a,b,c,d]:=by
 match cs,h with
 | [a,b,c,d],_=>exact ⟨a,b,c,d,rfl⟩
theorem list8 {cs:List Value} (h:cs.length=8):∃ a b c d e f g i,cs=[a,b,c,d,e,f,g,i]:=by
 match cs,h with
 | [a,b,c,d,e,f,g,i],_=>exact ⟨a,b,c,d,e,f,g,i,rfl⟩
section
variable {H:Type} {enc:TypeId×Value→H} {w:World} {base:Nat} {spare:Nat→Bool} {held:Bool}
theorem rd_whole {fuel:Nat} {cs:List Value} {x:DataW H×List MemPlace} (h:DataW.trod enc Tryz.prog w base spare held fuel 23 cs=some x):∃ r:RW,cs=(rwC r).toList:=by
 obtain ⟨y0,y1,n,_,hl,h0,h1⟩:=trod_struct2 Tryz.underlying23 h
 obtain ⟨b,e0,_⟩:=DataW.trod_bool Tryz.underlying4 h0
 obtain ⟨s,e1,_,_⟩:=DataW.trod_string Tryz.underlying9 h1
 rw [show Tryz.prog.cellsOf 23=2 by kernel_rfl] at hl
 rw [show Tryz.prog.cellsOf 4=1 by kernel_rfl] at e0
 rw [show Tryz.prog.cellsOf 9=1 by kernel_rfl] at e1
 obtain ⟨u,v,rfl⟩:=list2 hl
 simp only [List.drop_zero,List.take_succ_cons,List.take_zero,List.cons.injEq,and_true] at e0
 simp only [List.drop_succ_cons,List.drop_zero,List.take_succ_cons,List.take_zero,List.cons.injEq,and_true] at e1
 subst e0;subst e1
 exact ⟨⟨b,s⟩,rfl⟩
theorem rd_frac {fuel:Nat} {cs:List Value} {x:DataW H×List MemPlace} (h:DataW.trod enc Tryz.prog w base spare held fuel 25 cs=some x):∃ r:RF,cs=(rfC r).toList:=by
 obtain ⟨y0,y1,n,_,hl,h0,h1⟩:=trod_struct2 Tryz.underlying25 h
 obtain ⟨a,e0⟩:=rd_whole h0
 obtain ⟨b,e1⟩:=rd_whole h1
 rw [show Tryz.prog.cellsOf 25=4 by kernel_rfl] at hl
 rw [show Tryz.prog.cellsOf 23=2 by kernel_rfl] at e0 e1
 obtain ⟨u0,u1,u2,u3,rfl⟩:=list4 hl
 simp only [List.drop_zero,List.drop_succ_cons,List.take_succ_cons,List.take_zero,List.cons.injEq,and_true] at e0 e1
 obtain ⟨rfl,rfl⟩:=e0
 obtain ⟨rfl,rfl⟩:=e1
 exact ⟨⟨a,b⟩,rfl⟩
theorem rd_gauss {fuel:Nat} {cs:List Value} {x:DataW H×List MemPlace} (h:DataW.trod enc Tryz.prog w base spare held fuel 27 cs=some x):∃ r:RG,cs=(rgC r).toList:=by
 obtain ⟨y0,y1,n,_,hl,h0,h1⟩:=trod_struct2 Tryz.underlying27 h
 obtain ⟨a,e0⟩:=rd_frac h0
 obtain ⟨b,e1⟩:=rd_frac h1
 rw [show Tryz.prog.cellsOf 27=8 by kernel_rfl] at hl
 rw [show Tryz.prog.cellsOf 25=4 by kernel_rfl] at e0 e1
 obtain ⟨u0,u1,u2,u3,u4,u5,u6,u7,rfl⟩:=list8 hl
 simp only [List.drop_zero,List.drop_succ_cons,List.take_succ_cons,List.take_zero,List.cons.injEq,and_true] at e0 e1
 obtain ⟨rfl,rfl,rfl,rfl⟩:=e0
 obtain ⟨rfl,rfl,rfl,rfl⟩:=e1
 exact ⟨⟨a,b⟩,rfl⟩
end
end Go.Proofs.YtcpjdjnaipbieaaGreat
namespace Go.Proofs.YtcpjdjnaipbieaaGreat
open Go.ChangeShapes Go.WideShapes Go.ChangeAt Go.RowKit
section
variable {H:Type} {enc:TypeId×Value→H} {w:World} {base:Nat} {spare:Nat→Bool} {held:Bool}
theorem trod_struct3 {P:Program} {t:TypeId} {f0 f1 f2:Field} {fuel:Nat} {cs:List Value} {x:DataW H×List MemPlace} (ht:P.underlying t=some (.struct #[f0,f1,f2])) (h:DataW.trod enc P w base spare held fuel t cs=some x) :
  ∃ y0 y1 y2 n,cs.length=P.cellsOf t∧DataW.trod enc P w base spare held n f0.type ((cs.drop f0.offset).take (P.cellsOf f0.type))=some y0 ∧
   DataW.trod enc P w base spare held n f1.type ((cs.drop f1.offset).take (P.cellsOf f1.type))=some y1 ∧
   DataW.trod enc P w base spare held n f2.type ((cs.drop f2.offset).take (P.cellsOf f2.type))=some y2:=by
 obtain ⟨xs,n,_,_,hl,hlen,hf⟩:=DataW.trod_struct ht h
 match xs,hlen with
 | [y0,y1,y2],_=>exact ⟨y0,y1,y2,n,hl,by simpa using hf 0 f0 rfl,by simpa using hf 1 f1 rfl,by simpa using hf 2 f2 rfl⟩
theorem cut_at {α:Type} (cs:List α) (n k:Nat):cs.drop n=(cs.drop n).take k++cs.drop (n+k):=by rw [← List.drop_drop];exact (List.take_append_drop k _).symm
theorem rd_circ {fuel:Nat} {cs:List Value} {x:DataW H×List MemPlace} (h:DataW.trod enc Tryz.prog w base spare held fuel 47 cs=some x):∃ r:RCi,cs=(rciC r).toList:=by
 obtain ⟨y0,y1,y2,n,hl,h0,h1,h2⟩:=trod_struct3 Tryz.underlying47 h
 obtain ⟨a,e0⟩:=rd_frac h0
 obtain ⟨b,e1⟩:=rd_gauss h1
 obtain ⟨c,e2⟩:=rd_frac h2
 rw [show Tryz.prog.cellsOf 47=16 by kernel_rfl] at hl
 rw [show Tryz.prog.cellsOf 25=4 by kernel_rfl] at e0 e2
 rw [show Tryz.prog.cellsOf 27=8 by kernel_rfl] at e1
 refine ⟨⟨a,b,c⟩,?_⟩
 have e0' : (cs.drop 0).take 4=_:=e0
 have e1' : (cs.drop 4).take 8=_:=e1
 have e2' : (cs.drop 12).take 4=_:=e2
 have e3:cs.drop 12=(cs.drop 12).take 4:=(List.take_of_length_le (by rw [List.length_drop,hl];decide)).symm
 have e:cs=(cs.drop 0).take 4++((cs.drop 4).take 8++cs.drop 12):=by
  rw [← cut_at cs 4 8,← cut_at cs 0 4,List.drop_zero]
 rw [e,e3,e0', e1', e2']
 rfl
set_option maxRecDepth 100000 in
theorem open_circ {r:Reach} {b0:Nat} {v:Value} {d:DataW H} {p:List MemPlace} (hv:Value.okWide Tryz.prog w r b0 47 v) (h:DataW.Trod enc Tryz.prog w base spare held 47 v d p):∃ r:RCi,v=rciV r:=by
 obtain ⟨cs,rfl,_⟩:=okWide_struct Tryz.underlying47 hv
 obtain ⟨fuel,hf⟩:=h
 obtain ⟨r,e⟩:=rd_circ hf
 exact ⟨r,by rw [show cs=rciC r from Array.ext' e]⟩
theorem rd_pnt {fuel:Nat} {cs:List Value} {x:DataW H×List MemPlace} (h:DataW.trod enc Tryz.prog w base spare held fuel 56 cs=some x):∃ r:RPn,cs=(rpnC r).toList:=by
 obtain ⟨y0,y1,n,_,hl,h0,h1⟩:=trod_struct2 Tryz.underlying56 h
 obtain ⟨b,e0,_⟩:=DataW.trod_bool Tryz.underlying4 h0
 obtain ⟨z,e1⟩:=rd_gauss h1
 rw [show Tryz.prog.cellsOf 56=9 by kernel_rfl] at hl
 rw [show Tryz.prog.cellsOf 4=1 by kernel_rfl] at e0
 rw [show Tryz.prog.cellsOf 27=8 by kernel_rfl] at e1
 refine ⟨⟨b,z⟩,?_⟩
 have e0' : (cs.drop 0).take 1=_:=e0
 have e1' : (cs.drop 1).take 8=_:=e1
 have e3:cs.drop 1=(cs.drop 1).take 8:=(List.take_of_length_le (by rw [List.length_drop,hl];decide)).symm
 have e:cs=(cs.drop 0).take 1++cs.drop 1:=by rw [← cut_at cs 0 1,List.drop_zero]
 rw [e,e3,e0', e1']
 rfl
end
end Go.Proofs.YtcpjdjnaipbieaaGreat
namespace Go.Proofs.YtcpjdjnaipbieaaGreat
open Go.ChangeShapes Go.WideShapes Go.ChangeAt Go.RowKit Go.WideElems
theorem law_own:ownKnob Tryz.prog.godebug=none:=by kernel_rfl
theorem law_laid:laidOutB Tryz.prog=true:=by kernel_rfl
section
variable {H:Type} {enc:TypeId×Value→H}
theorem trodAll_stays {W W' : World} {sp:Nat→Bool}:∀ {ts:List TypeId} {vs:List Value} {ds:List (DataW H)} {ps:List MemPlace},(∀ t ∈ ts,Tryz.prog.readableRec t=true∧t<Tryz.prog.types.size) →
  DataW.TrodAll enc Tryz.prog W 0 (fun _=>true) true ts vs ds ps→(∀ p ∈ ps,W.sameAt W' p)→(∀ p ∈ ps,sp p.block=true)→DataW.TrodAll enc Tryz.prog W' 0 sp true ts vs ds ps:=by
 intro ts
 induction ts with
 | nil =>
  intro vs ds ps _ h _ _
  obtain ⟨rfl,rfl,rfl⟩:=trodAll_nil h
  exact trodAll_mk0
 | cons t ts ih =>
  intro vs ds ps ht h hs hb
  obtain ⟨v,vs', d,ds', p,p', rfl,rfl,rfl,h0,h1⟩:=trodAll_cons h
  obtain ⟨h2,h3⟩:=ht t (by simp)
  exact trodAll_cons_mk (Trod_stays law_laid h2 h3 h0 (fun q hq=>hs q (by simp [hq])) (fun q hq=>hb q (by simp [hq]))) (ih (fun t ht' => ht t (by simp [ht'])) h1 (fun q hq=>hs q (by simp [hq])) (fun q hq=>hb q (by simp [hq])))
set_option maxRecDepth 100000 in
theorem law_post {f:Func} {s:ChangeSpec} {fresh handsOn again:Bool} {W W' : World} {args:Array Value} {ds gs:List (DataW H)} {before:List MemPlace} (hW:DataW.Whole enc Tryz.prog f.params.toList s.vars false W args.toList ds gs before)
  (hv:s.vars=[]) (hfn:s.fn H ds={ results:=[.lit (.bool true)],args:=ds }) (hr:f.resultTypes=#[4]) (hp:f.params.toList.all (fun t=>Tryz.prog.readableRec t&&decide (t<Tryz.prog.types.size))=true) (hb:Below W.heap.size W W') :
  s.post enc Tryz.prog f false fresh handsOn again W args (.bool true) W' := by
 have hlt:∀ p ∈ before,p.block<W.heap.size:=fun p hq=>hW.lt p hq
 have hW' := hW
 obtain ⟨p,q,hA,hV,rfl,hfz,hnd⟩:=hW
 rw [hv] at hV
 obtain ⟨rfl,rfl⟩:=trodVars_none hV
 have hpar:∀ t ∈ f.params.toList,Tryz.prog.readableRec t=true∧t<Tryz.prog.types.size:=fun t ht=>by
  have:=List.all_eq_true.1 hp t ht
  simpa using this
 have hargs:∀ sp:Nat→Bool,(∀ x ∈ p++[],sp x.block=true)→DataW.TrodAll enc Tryz.prog W' 0 sp true f.params.toList args.toList ds p:=fun sp hs =>
  trodAll_stays hpar hA (fun x hx=>hb.same (hlt x (by simp [hx]))) (fun x hx=>hs x (by simp [hx]))
 have hres:∀ (b:Nat) (sp:Nat→Bool) (hd:Bool),DataW.TrodAll enc Tryz.prog W' b sp hd f.resultTypes.toList (Value.resultList f.resultTypes.size (.bool true)) [.lit (.bool true)] []:=fun _ _ _=>by
  rw [hr]
  exact trodAll_cons_mk (shut_bool Tryz.underlying4 _) trodAll_mk0
 have hold:∀ x ∈ p++[],(fun b=>decide (b<W.heap.size)) x.block=true:=fun x hx=>by simpa using hlt x hx
 have hfn' : s.fn H (ds++[])={ results:=[.lit (.bool true)],args:=ds }:=by rw [List.append_nil];exact hfn
 refine ⟨ds,[],p++[],[],p,[],hW', by rw [hfn'];exact hres _ _ _,by rw [hfn'];exact hargs _ hold,by rw [hv,hfn'];rfl,World.keptBut_mono (fun x hx=>⟨hx,?_⟩) (hb.frame (· ∈ p++[])),fun _=>?_⟩
 ·simpa using hx
 ·refine ⟨ok_one hr rfl (okWide_bool_mk Tryz.underlying4 _),_,[],([]++p)++[],⟨[]++p,[],trodAll_append (hargs _ (fun _ _=>rfl)) (hres _ _ _),by rw [hv];rfl,rfl,?_,?_⟩,?_⟩
  ·intro b off hx
   have hin:MemPlace.cell b off ∈ p++[]:=by simpa using hx
   rw [hb.frozen (hlt _ hin)]
   exact hfz b off hin
  ·intro ha
   have:=hnd ha
   simpa using this
  ·intro x hx _
   simpa using hx
end
end Go.Proofs.YtcpjdjnaipbieaaGreat
namespace Go.Proofs.YtcpjdjnaipbieaaGreat.ivBoLaw
open Go.ChangeShapes Go.WideShapes Go.ChangeAt Go.RowKit
theorem lBo {W:World} (c d:RCi) (p:RPn) (n:Int):Calls Tryz.prog 9 #[rciV c,rciV d,.agg ⟨(rpnC p).toList++[.int .i64 n]⟩] W (RetV (.bool true) W):=by
 cases h:(lgC c||lgC d) with
 | true=>exact lBo0 c d p n h
 | false=>cases h1:lgG p.z with
  | true=>exact lBo1 c d p n h h1
  | false =>
   by_cases hm:30<n∧n≤256
   ·exact lBo2 c d p n h h1 hm.1 hm.2
   have hn:n≤30∨256<n:=by omega
   cases h2:ciOk c with
   | false=>exact hn.elim (fun hn=>lBoAS c d p n h h1 hn h2) (fun hn=>lBoAG c d p n h h1 hn h2)
   | true =>
    obtain ⟨c,rfl,_⟩:=ciOk_ex h2
    cases h3:ciOk d with
    | false=>exact hn.elim (fun hn=>lBoBS c d p n h h1 hn h2 h3) (fun hn=>lBoBG c d p n h h1 hn h2 h3)
    | true =>
     obtain ⟨d,rfl,_⟩:=ciOk_ex h3
     cases h4:pnOk p with
     | false=>exact hn.elim (fun hn=>lBoCS c d p n h h1 hn h2 h3 h4) (fun hn=>lBoCG c d p n h h1 hn h2 h3 h4)
     | true =>
      obtain ⟨P,rfl,hP⟩:=pnOk_ex h4
      by_cases h0:n<0
      ·exact lBoPN c d P n h h1 h0 h2 h3 hP
      by_cases hg:256<n
      ·exact lBoPG c d P n h h1 hg h2 h3 hP
      obtain ⟨k,rfl⟩:∃ k:Nat,n=k:=⟨n.toNat,by omega⟩
      exact lBoPS c d P k h h1 (by omega) h2 h3 hP
section
variable {H:Type} {enc:TypeId×Value→H} {w:World} {base:Nat} {spare:Nat→Bool} {held:Bool}
set_option maxRecDepth 100000 in
theorem open_at {r:Reach} {b0:Nat} {v:Value} {d:DataW H} {q:List MemPlace} (hv:Value.okWide Tryz.prog w r b0 113 v) (h:DataW.Trod enc Tryz.prog w base spare held 113 v d q):∃ (p:RPn) (n:Int),v=.agg ⟨(rpnC p).toList++[.int .i64 n]⟩:=by
 obtain ⟨cs,rfl,_⟩:=okWide_struct Tryz.underlying113 hv
 obtain ⟨fuel,hf⟩:=h
 obtain ⟨y0,y1,n,_,hl,h0,h1⟩:=trod_struct2 Tryz.underlying113 hf
 obtain ⟨p,e0⟩:=rd_pnt h0
 obtain ⟨k,e1,_⟩:=DataW.trod_int Tryz.underlying3 h1
 rw [show Tryz.prog.cellsOf 113=10 by kernel_rfl] at hl
 rw [show Tryz.prog.cellsOf 56=9 by kernel_rfl] at e0
 rw [show Tryz.prog.cellsOf 3=1 by kernel_rfl] at e1
 refine ⟨p,k,?_⟩
 have hl' : cs.toList.length=10:=by first|exact hl|(rw [Array.length_toList];exact hl)
 have e0' : (cs.toList.drop 0).take 9=_:=e0
 have e1' : (cs.toList.drop 9).take 1=_:=e1
 have e3:cs.toList.drop 9=(cs.toList.drop 9).take 1:=(List.take_of_length_le (by rw [List.length_drop,hl'];decide)).symm
 have e:cs.toList=(cs.toList.drop 0).take 9++cs.toList.drop 9:=by rw [← cut_at cs.toList 0 9,List.drop_zero]
 rw [e3,e0', e1'] at e
 rw [← e]
end
set_option maxRecDepth 100000 in
theorem contract (H:Type) (enc:TypeId×Value→H) (W:World) (base:Nat) (args:Array Value) (ds gs:List (DataW H)) (before:List MemPlace)
  (hval:∀ (j:Nat) t v,Tryz.f9.params[j]? = some t→args[j]? = some v→Value.okWide Tryz.prog W .any base t v)
  (hW:DataW.Whole enc Tryz.prog Tryz.f9.params.toList Rows.invertBounceSpec.vars false W args.toList ds gs before) :
  Calls Tryz.prog 9 args W fun e W' => ∃ v,e=.returned v∧Rows.invertBounceSpec.post enc Tryz.prog Tryz.f9 false true false false W args v W' := by
 have hW' := hW
 obtain ⟨p,q,hA,hV,rfl,hfz,hnd⟩:=hW
 rw [Tryz.params9] at hA hval
 obtain ⟨v0,vs0,d0,ds0,p0,q0,hargs,rfl,rfl,h0,r0⟩:=trodAll_cons hA
 obtain ⟨v1,vs1,d1,ds1,p1,q1,rfl,rfl,rfl,h1,r1⟩:=trodAll_cons r0
 obtain ⟨v2,vs2,d2,ds2,p2,q2,rfl,rfl,rfl,h2,r2⟩:=trodAll_cons r1
 obtain ⟨rfl,rfl,rfl⟩:=trodAll_nil r2
 obtain rfl:args=#[v0,v1,v2]:=by cases args;simp_all
 obtain ⟨rfl,rfl⟩:=trodVars_none hV
 obtain ⟨c,rfl⟩:=open_circ (hval 0 _ v0 rfl rfl) h0
 obtain ⟨d,rfl⟩:=open_circ (hval 1 _ v1 rfl rfl) h1
 obtain ⟨p,n,rfl⟩:=open_at (hval 2 _ v2 rfl rfl) h2
 refine (lBo c d p n).mono fun e W' h=>?_
 obtain ⟨h1,h2⟩:=h.is
 exact ⟨_,h1,law_post hW' rfl rfl rfl (by kernel_rfl) h2⟩
set_option maxRecDepth 100000 in
theorem lifted (os:Os) (started:os.Started) (H:Type) (enc:TypeId×Value→H) :
  ReturnsInHanded {} Tryz.checked os 9 .any (Rows.invertBounceSpec.pre6 enc Tryz.prog Tryz.f9 Rows.invertBounceRow.domain false) (Rows.invertBounceSpec.post enc Tryz.prog Tryz.f9 false true false false):=by
 refine returnsInHanded_of_change (C:=Tryz.checked) law_own started (by kernel_rfl) Tryz.func9
  (ChangeSpec.witness6 (enc:=enc) (C:=Tryz.checked) false ⟨#[],#[.agg #[.bool false,.string ⟨#[]⟩,.bool false,.string ⟨#[]⟩,.bool false,.string ⟨#[]⟩,.bool false,.string ⟨#[]⟩,.bool false,.string ⟨#[]⟩,.bool false,.string ⟨#[]⟩,.bool false,.string ⟨#[]⟩,.bool false,.string ⟨#[]⟩],.agg #[.bool false,.string ⟨#[]⟩,.bool false,.string ⟨#[]⟩,.bool false,.string ⟨#[]⟩,.bool false,.string ⟨#[]⟩,.bool false,.string ⟨#[]⟩,.bool false,.string ⟨#[]⟩,.bool false,.string ⟨#[]⟩,.bool false,.string ⟨#[]⟩],.agg #[.bool false,.bool false,.string ⟨#[]⟩,.bool false,.string ⟨#[]⟩,.bool false,.string ⟨#[]⟩,.bool false,.string ⟨#[]⟩,.int .i64 0]],[]⟩ 8 (by kernel_rfl) (by kernel_rfl) (by kernel_rfl) (by kernel_rfl)) ?_
 intro W base args ds gs before hval hW _ _
 exact contract H enc W base args ds gs before hval hW
theorem kA:Tryz.pinned.checked.prog.funcNamed Rows.invertBounceRow.func=some 9:=by kernel_rfl
theorem laidP:laidOutB Tryz.pinned.checked.prog=true:=law_laid
set_option maxRecDepth 100000 in
set_option maxHeartbeats 4000000 in
theorem kB:joinedFacts Tryz.pinned.checked.prog 9 Tryz.f9 Rows.invertBounceSpec Rows.invertBounceRow=true:=by
 unfold joinedFacts
 simp only [Bool.and_eq_true]
 repeat' apply And.intro
 all_goals first|with_reducible exact laidP|as_aux_lemma=>kernel_rfl
theorem kC:Tryz.f9.isInstance Tryz.pinned.checked.prog Rows.invertBounceRow.origin Rows.invertBounceRow.targs:=of_decide_eq_true (by kernel_rfl)
theorem kD:Tryz.f9.isWrapper Tryz.pinned.checked.prog Rows.invertBounceRow.wrapper Rows.invertBounceRow.mainSum:=by
 unfold Func.isWrapper;first|(rw [if_pos (by decide +kernel)];kernel_rfl)|(rw [if_neg (by decide +kernel)];exact ⟨rfl,rfl⟩)
theorem over:Rows.InvertBounceSaid :=
 OpenClaim.holds_of_wide 9 Tryz.f9 rfl rfl rfl rfl rfl rfl rfl ⟨rfl,rfl,rfl,rfl,rfl⟩ rfl rfl rfl rfl rfl kA Tryz.func9 kB kC kD
  (fun os started H enc _=>lifted os started H enc)
end Go.Proofs.YtcpjdjnaipbieaaGreat.ivBoLaw
namespace Go.Proofs.YtcpjdjnaipbieaaGreat
theorem invertBounce_proved:Rows.InvertBounceSaid:=ivBoLaw.over
end Go.Proofs.YtcpjdjnaipbieaaGreat
