/- tracerylaw20.DiskKeeps returns true for any two disks, any map and any point, and changes nothing that it was handed. No condition. -/
import Derived.Test.YtcboejgklgnifaaGreatP05
import Derived.ProofKit
import Derived.OpenShut
import Derived.JoinedCond
import Derived.Deep.Slices
import Derived.Deep.Strs
import Derived.Test.YtcboejgklgnifaaGreatRows
import Derived.WalkKit
import Derived.Below
import Derived.ChangeSame
import Derived.WideKeyArgs
import Derived.JoinedOf
import Derived.JoinedAt
set_option linter.unusedVariables false
set_option linter.unusedSimpArgs false
set_option maxHeartbeats 8000000
set_option maxRecDepth 100000
namespace Go.Proofs.YtcboejgklgnifaaGreat
open Go.RowKit Rgn Eng
variable {S:Nat→Prop} {W:World}
theorem prY(a b:Ci)(p0:dsOk (rci a)=true)(p1:dsOk (rci b)=true):Calls Tryz.prog 59 #[ciV a,ciV b] W (RetV (.tuple #[rfV (fcut (a.dot b)),.int .i64 (ferr (a.dot b))]) W):=by
 have f0:=cifits_ht (dsOk_c p0).1
 have f1:=cifits_ht (dsOk_c p1).1
 have h1:=dot_ht a b
 refine Run.goP (S:=Z0) ((Pack.nil.k (ciV a) (ciC a).toList (.s (.agg (ks 0 16)))).k (ciV b) (ciC b).toList (.s (.agg (ks 0 16)))) Tryz.func59 rfl ?_
 refine Run.cB (n:=2) (T:=133) (φs:=ringF [a,b]) (fun _ _ _ H=>pl2Y 29 a b (H.b 3) p0 p1) (fun cp1=>?_)
 refine Run.dr ?_
 refine RunD.cR spRat (fun _ _ _ H=>dsBy a b (RingP.mk (H.f 0) (H.f 1) (H.f 2) (H.f 3)) (RingP.mk (H.f 4) (H.f 5) (H.f 6) (H.f 7)) (by omega)) ?_
 refine RunD.cV ((rfC (fcut (a.dot b))).toList++[.int .i64 (ferr (a.dot b))]) (.tup [.agg (ks 0 4),.o (.k 4)]) (fun _ _ _ H=>eFrac (a.dot b) (RatP.n (H.f 8)) (by omega)) ?_
 refine RunD.en ?_
 exact Run.rV rfl
theorem l20num(n:Int):Calls Tryz.prog 16 #[.int .i64 n] W (RetV (.int .i64 n) W):=by
 refine Run.goP (S:=Z0) (Pack.nil.k (.int .i64 n) [.int .i64 n] kb) Tryz.func16 rfl ?_
 exact Run.rV rfl
theorem l20in(n re im co:Int)(p0:-9223372036854775808≤n∧n≤9223372036854775807)(p1:-9223372036854775808≤re∧re≤9223372036854775807)(p2:-9223372036854775808≤im∧im≤9223372036854775807)(p3:-9223372036854775808≤co∧co≤9223372036854775807):Calls Tryz.prog 53 #[.int .i64 n,.int .i64 re,.int .i64 im,.int .i64 co] W (RetV (ciV (Ci.in4 n re im co)) W):=by
 refine Run.goP (S:=Z0) ((((Pack.nil.k (.int .i64 n) [.int .i64 n] kb).k (.int .i64 re) [.int .i64 re] kb).k (.int .i64 im) [.int .i64 im] kb).k (.int .i64 co) [.int .i64 co] kb) Tryz.func53 rfl ?_
 refine Run.cV (fC (n:Rat)).toList (.s (.agg (ks 0 4))) (fun _ _ _ H=>fInt n (by omega) (by omega)) ?_
 refine Run.cV (gC (Cx.ofInt re im)).toList (.s (.agg (ks 0 8))) (fun _ _ _ H=>cInt re im (by omega) (by omega) (by omega) (by omega)) ?_
 refine Run.cV (fC (co:Rat)).toList (.s (.agg (ks 0 4))) (fun _ _ _ H=>fInt co (by omega) (by omega)) ?_
 exact Run.rV (rfl)
end Go.Proofs.YtcboejgklgnifaaGreat
namespace Go.Proofs.YtcboejgklgnifaaGreat
open Go.RowKit Rgn Eng
def lg6(r:RW):Bool:=decide (60<(r.s.size:Int))&&decide ((r.s.size:Int)≤1024)
def lgD(r:RF):Bool:=lg6 r.a||lg6 r.b
def lgE(r:RG):Bool:=lgD r.re||lgD r.im
def lgK(c:RCi):Bool:=lgD c.a||lgE c.b||lgD c.c
theorem in4_fits{n re im co:Int}(h1:ht (n:Rat)≤100)(h2:ht (re:Rat)≤100)(h3:ht (im:Rat)≤100)(h4:ht (co:Rat)≤100):cifits (rci (Ci.in4 n re im co))=true:=by
 show (fits (rf (n:Rat))&&gfits (rg (Cx.ofInt re im))&&fits (rf (co:Rat)))=true
 rw [fits_ht (by omega),fits_ht (by omega),gfits_ht (z:=Cx.ofInt re im) ⟨by show ht (re:Rat)≤_;omega,by show ht (im:Rat)≤_;omega⟩];rfl
theorem okO:dsOk (rci (Ci.in4 (-1) 0 0 1))=true:=dsOk_yes (in4_fits (by decide) (by decide) (by decide) (by decide)) (by decide +kernel)
theorem okA:dsOk (rci (Ci.in4 2 1 0 0))=true:=dsOk_yes (in4_fits (by decide) (by decide) (by decide) (by decide)) (by decide +kernel)
theorem okB:dsOk (rci (Ci.in4 2 (-1) 0 0))=true:=dsOk_yes (in4_fits (by decide) (by decide) (by decide) (by decide)) (by decide +kernel)
theorem okC:dsOk (rci (Ci.in4 3 0 2 1))=true:=dsOk_yes (in4_fits (by decide) (by decide) (by decide) (by decide)) (by decide +kernel)
theorem ok_e{c:Ci}(h:cifits (rci c)=true):cierr c=0:=by unfold cierr;rw [if_pos h]
theorem ok_r{c:Ci}(h:cifits (rci c)=true):cicut c=rci c:=by unfold cicut;rw [if_pos h]
variable {W:World}
theorem wkPr(a b:Ci)(p0:a=Ci.in4 2 1 0 0)(p1:b=Ci.in4 2 (-1) 0 0):Calls Tryz.prog 59 #[ciV a,ciV b] W (RetV (.tuple #[fV (1:Rat),.int .i64 0]) W):=by
 subst p0;subst p1
 have e:(Ci.in4 2 1 0 0).dot (Ci.in4 2 (-1) 0 0)=1:=by decide +kernel
 have f:fits (rf (1:Rat))=true:=fits_ht (by decide)
 refine reV ?_ (prY _ _ okA okB)
 rw [e];unfold fcut ferr;rw [if_pos f,if_pos f]
theorem wkFo(a b c:Ci)(p0:a=Ci.in4 (-1) 0 0 1)(p1:b=Ci.in4 2 1 0 0)(p2:c=Ci.in4 2 (-1) 0 0):Calls Tryz.prog 21 #[ciV a,ciV b,ciV c] W (RetV (.tuple #[ciV (Ci.in4 3 0 (-2) 1),ciV (Ci.in4 3 0 2 1),.int .i64 0]) W):=by
 subst p0;subst p1;subst p2
 have e1:Ci.f4p (Ci.in4 (-1) 0 0 1) (Ci.in4 2 1 0 0) (Ci.in4 2 (-1) 0 0)=Ci.in4 3 0 (-2) 1:=by decide +kernel
 have e2:Ci.f4q (Ci.in4 (-1) 0 0 1) (Ci.in4 2 1 0 0) (Ci.in4 2 (-1) 0 0)=Ci.in4 3 0 2 1:=by decide +kernel
 have f1:cifits (rci (Ci.in4 3 0 (-2) 1))=true:=in4_fits (by decide) (by decide) (by decide) (by decide)
 have f2:cifits (rci (Ci.in4 3 0 2 1))=true:=in4_fits (by decide) (by decide) (by decide) (by decide)
 have g:¬ Ci.f4b (Ci.in4 (-1) 0 0 1) (Ci.in4 2 1 0 0) (Ci.in4 2 (-1) 0 0)=true:=by unfold Ci.f4b;rw [e1,e2,ok_e f1,ok_e f2];decide
 refine reV ?_ (fo4 _ _ _ okO okA okB (by decide +kernel))
 unfold Ci.f4P Ci.f4Q Ci.f4E;rw [if_neg g,if_neg g,if_neg g,e1,e2,ok_r f1,ok_r f2]
theorem wkSw(d0 d1 d2 d3:Ci)(p0:d0=Ci.in4 (-1) 0 0 1)(p1:d1=Ci.in4 2 1 0 0)(p2:d2=Ci.in4 2 (-1) 0 0)(p3:d3=Ci.in4 3 0 2 1):Calls Tryz.prog 11 #[.agg ⟨(ciC d0).toList++(ciC d1).toList++(ciC d2).toList++(ciC d3).toList⟩,.int .i64 0] W (RetV (.tuple #[.agg ⟨(ciC (Ci.in4 15 0 4 1)).toList++(ciC d1).toList++(ciC d2).toList++(ciC d3).toList⟩,.int .i64 0]) W):=by
 subst p0;subst p1;subst p2;subst p3
 have e:Ci.swp (Ci.in4 (-1) 0 0 1) (Ci.in4 2 1 0 0) (Ci.in4 2 (-1) 0 0) (Ci.in4 3 0 2 1) (Ci.in4 (-1) 0 0 1)=Ci.in4 15 0 4 1:=by decide +kernel
 have f:cifits (rci (Ci.in4 15 0 4 1))=true:=in4_fits (by decide) (by decide) (by decide) (by decide)
 refine reV ?_ (sw0Y _ _ _ _ okO okA okB okC (by decide +kernel) (by rw [e,ok_e f];rfl))
 rw [e,ok_r f]
end Go.Proofs.YtcboejgklgnifaaGreat
namespace Go.Proofs.YtcboejgklgnifaaGreat
open Go.RowKit Rgn Eng
variable {S:Nat→Prop} {W:World}
theorem l20longF(r:RF):Calls Tryz.prog 39 #[rfV r] W (RetV (.bool (lgD r)) W):=by
 refine Run.goP (S:=Z0) (Pack.nil.k (rfV r) (rfC r).toList (.s (.agg (ks 0 4)))) Tryz.func39 rfl ?_
 refine Run.sl r.a.s 9 Tryz.underlying9 ?_
 rcases Bool.eq_false_or_eq_true (decide (60<((r.a.s.size:Nat):Int))) with c0|c0
 · refine Run.ik .gtr ((r.a.s.size:Nat):Int) 60 true (congrArg some c0) ?_
   refine Run.sl r.a.s 9 Tryz.underlying9 ?_
   rcases Bool.eq_false_or_eq_true (decide (((r.a.s.size:Nat):Int)≤1024)) with c1|c1
   · refine Run.ik .leq ((r.a.s.size:Nat):Int) 1024 true (congrArg some c1) ?_
     exact Run.rV (show Value.bool true=.bool (lgD r) by unfold lgD lg6;rw [c0,c1];rfl)
   · refine Run.ik .leq ((r.a.s.size:Nat):Int) 1024 false (congrArg some c1) ?_
     refine Run.sl r.b.s 9 Tryz.underlying9 ?_
     rcases Bool.eq_false_or_eq_true (decide (60<((r.b.s.size:Nat):Int))) with c2|c2
     · refine Run.ik .gtr ((r.b.s.size:Nat):Int) 60 true (congrArg some c2) ?_
       refine Run.sl r.b.s 9 Tryz.underlying9 ?_
       rcases Bool.eq_false_or_eq_true (decide (((r.b.s.size:Nat):Int)≤1024)) with c3|c3
       · refine Run.ik .leq ((r.b.s.size:Nat):Int) 1024 true (congrArg some c3) ?_
         exact Run.rV (show Value.bool true=.bool (lgD r) by unfold lgD lg6;rw [c0,c1,c2,c3];rfl)
       · refine Run.ik .leq ((r.b.s.size:Nat):Int) 1024 false (congrArg some c3) ?_
         exact Run.rV (show Value.bool false=.bool (lgD r) by unfold lgD lg6;rw [c0,c1,c2,c3];rfl)
     · refine Run.ik .gtr ((r.b.s.size:Nat):Int) 60 false (congrArg some c2) ?_
       exact Run.rV (show Value.bool false=.bool (lgD r) by unfold lgD lg6;rw [c0,c1,c2];rfl)
 · refine Run.ik .gtr ((r.a.s.size:Nat):Int) 60 false (congrArg some c0) ?_
   refine Run.sl r.b.s 9 Tryz.underlying9 ?_
   rcases Bool.eq_false_or_eq_true (decide (60<((r.b.s.size:Nat):Int))) with c4|c4
   · refine Run.ik .gtr ((r.b.s.size:Nat):Int) 60 true (congrArg some c4) ?_
     refine Run.sl r.b.s 9 Tryz.underlying9 ?_
     rcases Bool.eq_false_or_eq_true (decide (((r.b.s.size:Nat):Int)≤1024)) with c5|c5
     · refine Run.ik .leq ((r.b.s.size:Nat):Int) 1024 true (congrArg some c5) ?_
       exact Run.rV (show Value.bool true=.bool (lgD r) by unfold lgD lg6;rw [c0,c4,c5];rfl)
     · refine Run.ik .leq ((r.b.s.size:Nat):Int) 1024 false (congrArg some c5) ?_
       exact Run.rV (show Value.bool false=.bool (lgD r) by unfold lgD lg6;rw [c0,c4,c5];rfl)
   · refine Run.ik .gtr ((r.b.s.size:Nat):Int) 60 false (congrArg some c4) ?_
     exact Run.rV (show Value.bool false=.bool (lgD r) by unfold lgD lg6;rw [c0,c4];rfl)
theorem l20long1{b0:Nat}(T0:TypeId)(a:RG)(B0:W.heap[b0]? = some (.cells (⟨(rgC a).toList⟩) T0 (0,0))):Calls Tryz.prog 38 #[.slice (some ⟨b0,0,none⟩) 1 1] W (RetV (.bool (lgE a)) W):=by
 refine Run.goP (S:=Z0) (Pack.nil.b B0 (some 1) 8) Tryz.func38 rfl ?_
 refine Run.cV [.bool (lgD a.re)] kb (fun _ _ _ H=>l20longF a.re) ?_
 refine (Bool.eq_false_or_eq_true (lgD a.re)).elim (fun c1=>?_) (fun c1=>?_)
 · refine Run.kn c1 ?_
   exact Run.rV (V' := .bool true) ((congrArg Value.bool (by simp [lgE,c1])))
 · refine Run.kn c1 ?_
   refine Run.cV [.bool (lgD a.im)] kb (fun _ _ _ H=>l20longF a.im) ?_
   refine (Bool.eq_false_or_eq_true (lgD a.im)).elim (fun c2=>?_) (fun c2=>?_)
   · refine Run.kn c2 ?_
     exact Run.rV (V' := .bool true) ((congrArg Value.bool (by simp [lgE,c1,c2])))
   · refine Run.kn c2 ?_
     exact Run.rV (V' := .bool false) ((congrArg Value.bool (by simp [lgE,c1,c2])))
theorem l20far2{b0:Nat}(T0:TypeId)(a b:RCi)(B0:W.heap[b0]? = some (.cells (⟨(rciC a).toList++((rciC b).toList)⟩) T0 (0,0))):Calls Tryz.prog 9 #[.slice (some ⟨b0,0,none⟩) 2 2] W (RetV (.bool (lgK a||lgK b)) W):=by
 refine Run.goP (S:=Z0) (Pack.nil.b B0 (some 2) 32) Tryz.func9 rfl ?_
 refine Run.cV [.bool (lgD a.a)] kb (fun _ _ _ H=>l20longF a.a) ?_
 refine (Bool.eq_false_or_eq_true (lgD a.a)).elim (fun c1=>?_) (fun c1=>?_)
 · refine Run.kn c1 ?_
   exact Run.rV (V' := .bool true) ((congrArg Value.bool (by simp [lgK,c1])))
 · refine Run.kn c1 ?_
   refine Run.cV [.bool (lgE a.b)] kb (fun _ _ _ H=>l20long1 27 a.b (H.b 1)) ?_
   refine (Bool.eq_false_or_eq_true (lgE a.b)).elim (fun c2=>?_) (fun c2=>?_)
   · refine Run.kn c2 ?_
     exact Run.rV (V' := .bool true) ((congrArg Value.bool (by simp [lgK,c1,c2])))
   · refine Run.kn c2 ?_
     refine Run.cV [.bool (lgD a.c)] kb (fun _ _ _ H=>l20longF a.c) ?_
     refine (Bool.eq_false_or_eq_true (lgD a.c)).elim (fun c3=>?_) (fun c3=>?_)
     · refine Run.kn c3 ?_
       exact Run.rV (V' := .bool true) ((congrArg Value.bool (by simp [lgK,c1,c2,c3])))
     · refine Run.kn c3 ?_
       refine Run.cV [.bool (lgD b.a)] kb (fun _ _ _ H=>l20longF b.a) ?_
       refine (Bool.eq_false_or_eq_true (lgD b.a)).elim (fun c4=>?_) (fun c4=>?_)
       · refine Run.kn c4 ?_
         exact Run.rV (V' := .bool true) ((congrArg Value.bool (by simp [lgK,c1,c2,c3,c4])))
       · refine Run.kn c4 ?_
         refine Run.cV [.bool (lgE b.b)] kb (fun _ _ _ H=>l20long1 27 b.b (H.b 2)) ?_
         refine (Bool.eq_false_or_eq_true (lgE b.b)).elim (fun c5=>?_) (fun c5=>?_)
         · refine Run.kn c5 ?_
           exact Run.rV (V' := .bool true) ((congrArg Value.bool (by simp [lgK,c1,c2,c3,c4,c5])))
         · refine Run.kn c5 ?_
           refine Run.cV [.bool (lgD b.c)] kb (fun _ _ _ H=>l20longF b.c) ?_
           refine (Bool.eq_false_or_eq_true (lgD b.c)).elim (fun c6=>?_) (fun c6=>?_)
           · refine Run.kn c6 ?_
             exact Run.rV (V' := .bool true) ((congrArg Value.bool (by simp [lgK,c1,c2,c3,c4,c5,c6])))
           · refine Run.kn c6 ?_
             exact Run.rV (V' := .bool false) ((congrArg Value.bool (by simp [lgK,c1,c2,c3,c4,c5,c6])))
theorem l20works  : Calls Tryz.prog 10 #[] W (RetV (.bool true) W):=by
 refine Run.goP (S:=Z0) Pack.nil Tryz.func10 rfl ?_
 refine Run.cV (ciC (Ci.in4 (-1) 0 0 1)).toList (.s (.agg (ks 0 16))) (fun _ _ _ H=>l20in (-1) 0 0 1 (by first|omega|rfl) (by first|omega|rfl) (by first|omega|rfl) (by first|omega|rfl)) ?_
 refine Run.cV (ciC (Ci.in4 2 1 0 0)).toList (.s (.agg (ks 0 16))) (fun _ _ _ H=>l20in 2 1 0 0 (by first|omega|rfl) (by first|omega|rfl) (by first|omega|rfl) (by first|omega|rfl)) ?_
 refine Run.cV (ciC (Ci.in4 2 (-1) 0 0)).toList (.s (.agg (ks 0 16))) (fun _ _ _ H=>l20in 2 (-1) 0 0 (by first|omega|rfl) (by first|omega|rfl) (by first|omega|rfl) (by first|omega|rfl)) ?_
 refine Run.cV (ciC (Ci.in4 3 0 2 1)).toList (.s (.agg (ks 0 16))) (fun _ _ _ H=>l20in 3 0 2 1 (by first|omega|rfl) (by first|omega|rfl) (by first|omega|rfl) (by first|omega|rfl)) ?_
 refine Run.cV (fC (1:Rat)).toList (.tup [.agg (ks 0 4),.o (.c (.int .i64 0))]) (fun _ _ _ H=>wkPr (Ci.in4 2 1 0 0) (Ci.in4 2 (-1) 0 0) (by first|omega|rfl) (by first|omega|rfl)) ?_
 refine Run.cV ((ciC (Ci.in4 3 0 (-2) 1)).toList++(ciC (Ci.in4 3 0 2 1)).toList) (.tup [.agg (ks 0 16),.agg (ks 16 16),.o (.c (.int .i64 0))]) (fun _ _ _ H=>wkFo (Ci.in4 (-1) 0 0 1) (Ci.in4 2 1 0 0) (Ci.in4 2 (-1) 0 0) (by first|omega|rfl) (by first|omega|rfl) (by first|omega|rfl)) ?_
 refine Run.cV ((ciC (Ci.in4 15 0 4 1)).toList++(ciC (Ci.in4 2 1 0 0)).toList++(ciC (Ci.in4 2 (-1) 0 0)).toList++(ciC (Ci.in4 3 0 2 1)).toList) (.tup [.agg (ks 0 64),.o (.c (.int .i64 0))]) (fun _ _ _ H=>wkSw (Ci.in4 (-1) 0 0 1) (Ci.in4 2 1 0 0) (Ci.in4 2 (-1) 0 0) (Ci.in4 3 0 2 1) (by first|omega|rfl) (by first|omega|rfl) (by first|omega|rfl) (by first|omega|rfl)) ?_
 refine Run.dr ?_
 refine RunD.cV [] (.s (.o (.c (.int .i64 0)))) (fun _ _ _ H=>l20num 0) ?_
 refine RunD.cV (fC (1:Rat)).toList (.s (.agg (ks 0 4))) (fun _ _ _ H=>fInt 1 (by decide) (by decide)) ?_
 refine RunD.bi [] (cb true) (fun _ _ _ o1 o2 _ ho hx hy=>ex_eql_frac (r:=(rf (1:Rat))) (q:=(rf (1:Rat))) o1 o2 ho hx hy ((rf_dec (1:Rat) (1:Rat)).trans (decide_eq_true rfl))) ?_
 refine RunD.cV [] (.s (.o (.c (.int .i64 0)))) (fun _ _ _ H=>l20num 0) ?_
 refine RunD.cV (ciC (Ci.in4 3 0 (-2) 1)).toList (.s (.agg (ks 0 16))) (fun _ _ _ H=>l20in 3 0 (-2) 1 (by first|omega|rfl) (by first|omega|rfl) (by first|omega|rfl) (by first|omega|rfl)) ?_
 refine RunD.bi [] (cb true) (fun _ _ _ o1 o2 _ ho hx hy=>ex_eql_dk (r:=(rci (Ci.in4 3 0 (-2) 1))) (q:=(rci (Ci.in4 3 0 (-2) 1))) o1 o2 ho hx hy ((rci_dec (Ci.in4 3 0 (-2) 1) (Ci.in4 3 0 (-2) 1)).trans (decide_eq_true rfl))) ?_
 refine RunD.bi [] (cb true) (fun _ _ _ o1 o2 _ ho hx hy=>ex_eql_dk (r:=(rci (Ci.in4 3 0 2 1))) (q:=(rci (Ci.in4 3 0 2 1))) o1 o2 ho hx hy ((rci_dec (Ci.in4 3 0 2 1) (Ci.in4 3 0 2 1)).trans (decide_eq_true rfl))) ?_
 refine RunD.cV [] (.s (.o (.c (.int .i64 0)))) (fun _ _ _ H=>l20num 0) ?_
 refine RunD.cV (ciC (Ci.in4 15 0 4 1)).toList (.s (.agg (ks 0 16))) (fun _ _ _ H=>l20in 15 0 4 1 (by first|omega|rfl) (by first|omega|rfl) (by first|omega|rfl) (by first|omega|rfl)) ?_
 refine RunD.bi [] (cb true) (fun _ _ _ o1 o2 _ ho hx hy=>ex_eql_dk (r:=(rci (Ci.in4 15 0 4 1))) (q:=(rci (Ci.in4 15 0 4 1))) o1 o2 ho hx hy ((rci_dec (Ci.in4 15 0 4 1) (Ci.in4 15 0 4 1)).trans (decide_eq_true rfl))) ?_
 refine RunD.en ?_
 exact Run.rV rfl
end Go.Proofs.YtcboejgklgnifaaGreat
namespace Go.Proofs.YtcboejgklgnifaaGreat
open Go.RowKit Rgn
theorem send_le{m:Mb}{p:Pn}(h:ht m.a.re+ht m.a.im+ht m.b.re+ht m.b.im+ht m.c.re+ht m.c.im+ht m.d.re+ht m.d.im≤200000)(hp:ht p.z.re+ht p.z.im≤200000):ht (m.send p).z.re+ht (m.send p).z.im≤67108864:=by
 have z0:=ht_zero
 have key:∀ a b:Cx,ht a.re+ht a.im≤2000000→ht b.re+ht b.im≤2000000→ht (a.div b).re+ht (a.div b).im≤67108864:=by
  intro a b h1 h2
  have h3:=hc_div a b
  omega
 have h1:=hc_conj p.z
 have h2:=hc_mul m.a p.z
 have h3:=hc_mul m.c p.z
 have h4:=hc_mul m.a p.z.conj
 have h5:=hc_mul m.c p.z.conj
 have h6:=hc_add (m.a.mul p.z) m.b
 have h7:=hc_add (m.c.mul p.z) m.d
 have h8:=hc_add (m.a.mul p.z.conj) m.b
 have h9:=hc_add (m.c.mul p.z.conj) m.d
 have hput:ht (m.put p).1.re+ht (m.put p).1.im≤2000000∧ht (m.put p).2.re+ht (m.put p).2.im≤2000000:=by
  cases e:(!p.inf) with
  | false =>
   rw [put_i e]
   show ht m.a.re+ht m.a.im≤_∧ht m.c.re+ht m.c.im≤_
   omega
  | true=>cases t:m.t with
   | true =>
    rw [put_n1 e t]
    show ht ((m.a.mul p.z.conj).add m.b).re+ht ((m.a.mul p.z.conj).add m.b).im≤_∧ht ((m.c.mul p.z.conj).add m.d).re+ht ((m.c.mul p.z.conj).add m.d).im≤_
    omega
   | false =>
    rw [put_n0 e t]
    show ht ((m.a.mul p.z).add m.b).re+ht ((m.a.mul p.z).add m.b).im≤_∧ht ((m.c.mul p.z).add m.d).re+ht ((m.c.mul p.z).add m.d).im≤_
    omega
 unfold Mb.send
 split
 ·show ht (0:Rat)+ht (0:Rat)≤_
  omega
 ·exact key _ _ hput.1 hput.2
end Go.Proofs.YtcboejgklgnifaaGreat
namespace Go.Proofs.YtcboejgklgnifaaGreat
open Go.RowKit Rgn
structure PnF (P:Pn):Prop where
 z:P.inf=true→P.z=⟨0,0⟩
 f:pnfits P=true
theorem pnOk_ex{r:RPn}(h:pnOk r=true):∃ P,r=pnR P∧PnF P:=by
 unfold pnOk at h
 split at h
 ·have:=of_decide_eq_true h
  exact⟨⟨true,⟨0,0⟩⟩,this,fun _=>rfl,rfl⟩
 ·rename_i hi
  obtain⟨i,z⟩:=r
  cases i with
  | true=>exact absurd rfl hi
  | false =>
   obtain⟨c,rfl⟩:=gmay_ex h
   rw [gmay_rg] at h
   exact⟨⟨false,c⟩,rfl,⟨fun h=>(by cases h),h⟩⟩
theorem PnF.ht{P:Pn}(h:PnF P):ht P.z.re+ht P.z.im≤20000:=by
 cases e:P.inf with
 | true=>rw [h.z e];decide
 | false =>
  have:=h.f
  unfold pnfits at this
  rw [e] at this
  exact gfits_ht2 this
theorem pnR_I{P:Pn}(h:PnF P)(e:P.inf=true):P=⟨true,⟨0,0⟩⟩:=by
 obtain⟨i,z⟩:=P
 cases e
 have:=h.z rfl
 subst this;rfl
theorem img_1{m:Mb}{c:Ci}(h:m.t=true):Ci.mk (c.at m.undo.a m.undo.c) (c.mid m.undo).conj (c.at m.undo.b m.undo.d)=m.img c:=by unfold Mb.img Ci.im cjC;rw [if_pos h]
theorem img_0{m:Mb}{c:Ci}(h:m.t=false):Ci.mk (c.at m.undo.a m.undo.c) (c.mid m.undo) (c.at m.undo.b m.undo.d)=m.img c:=by unfold Mb.img Ci.im cjC;rw [if_neg (by rw [h];decide)]
section
variable {m:Mb} {c:Ci} (h:m.det.zero=false) (hc:c.pos=true)
include h hc
theorem imgF_1(e:m.t=true):(Ci.mk (c.at m.undo.a m.undo.c) (c.mid m.undo).conj (c.at m.undo.b m.undo.d)).flat=false:=by rw [img_1 e];exact pos_flat (img_pos h hc)
theorem imgF_0(e:m.t=false):(Ci.mk (c.at m.undo.a m.undo.c) (c.mid m.undo) (c.at m.undo.b m.undo.d)).flat=false:=by rw [img_0 e];exact pos_flat (img_pos h hc)
end
theorem imgE_1{m:Mb}{c:Ci}(e:m.t=true):(Ci.mk (c.at m.undo.a m.undo.c) (((((m.undo.a.mul m.undo.b.conj).scale c.a).add ((c.b.mul m.undo.a).mul m.undo.d.conj)).add ((c.b.mul m.undo.b).conj.mul m.undo.c)).add ((m.undo.c.mul m.undo.d.conj).scale c.c)).conj (c.at m.undo.b m.undo.d)).nrm=(m.img c).nrm:=by rw [mid_eq,img_1 e]
theorem imgE_0{m:Mb}{c:Ci}(e:m.t=false):(Ci.mk (c.at m.undo.a m.undo.c) (((((m.undo.a.mul m.undo.b.conj).scale c.a).add ((c.b.mul m.undo.a).mul m.undo.d.conj)).add ((c.b.mul m.undo.b).conj.mul m.undo.c)).add ((m.undo.c.mul m.undo.d.conj).scale c.c)) (c.at m.undo.b m.undo.d)).nrm=(m.img c).nrm:=by rw [mid_eq,img_0 e]
theorem imgF_1'{m:Mb}{c:Ci}(h:m.det.zero=false)(hc:c.pos=true)(e:m.t=true):(Ci.mk (c.at m.undo.a m.undo.c) (((((m.undo.a.mul m.undo.b.conj).scale c.a).add ((c.b.mul m.undo.a).mul m.undo.d.conj)).add ((c.b.mul m.undo.b).conj.mul m.undo.c)).add ((m.undo.c.mul m.undo.d.conj).scale c.c)).conj (c.at m.undo.b m.undo.d)).flat=false:=by rw [mid_eq];exact imgF_1 h hc e
theorem imgF_0'{m:Mb}{c:Ci}(h:m.det.zero=false)(hc:c.pos=true)(e:m.t=false):(Ci.mk (c.at m.undo.a m.undo.c) (((((m.undo.a.mul m.undo.b.conj).scale c.a).add ((c.b.mul m.undo.a).mul m.undo.d.conj)).add ((c.b.mul m.undo.b).conj.mul m.undo.c)).add ((m.undo.c.mul m.undo.d.conj).scale c.c)) (c.at m.undo.b m.undo.d)).flat=false:=by rw [mid_eq];exact imgF_0 h hc e
def Mb.ub(m:Mb)(n:Nat):Prop:=HB m.undo.a n∧HB m.undo.b n∧HB m.undo.c n∧HB m.undo.d n
theorem undo_up{m:Mb}(h:m.ub (6*200000)):m.ub 2400000:=by unfold Mb.ub HB at h ⊢;omega
theorem undo_le{m:Mb}{n:Nat}(h:ht m.a.re+ht m.a.im+ht m.b.re+ht m.b.im+ht m.c.re+ht m.c.im+ht m.d.re+ht m.d.im≤n):m.ub (6*n):=by
 unfold Mb.ub HB
 let x:Mb:=Mb.cjM m.t ⟨m.d,m.b.neg,m.c.neg,m.a,m.t⟩
 have h1:=mnrm_ht x
 have h2:=mpiv_ht x
 have c1:=cj_ht m.t m.d
 have c2:=cj_ht m.t m.b.neg
 have c3:=cj_ht m.t m.c.neg
 have c4:=cj_ht m.t m.a
 have n1:=hc_neg m.b
 have n2:=hc_neg m.c
 have e:m.undo=x.nrm:=rfl
 have ea:x.a=cjC m.t m.d:=rfl
 have eb:x.b=cjC m.t m.b.neg:=rfl
 have ec:x.c=cjC m.t m.c.neg:=rfl
 have ed:x.d=cjC m.t m.a:=rfl
 rw [e]
 generalize x=y at *
 unfold Mb.hh Cx.hh at h2
 unfold Cx.hh at h1
 rw [ea,eb,ec,ed] at h2 h1
 omega
theorem at_hb{c:Ci}{v w:Cx}{A B E n k:Nat}(h1:ht c.a≤A)(h2:HB c.b B)(h3:ht c.c≤E)(hv:HB v n)(hw:HB w k)(N:Nat)(h:A+4*n+E+4*k+2*(2*(2*B+2*n)+2*k)≤N:=by decide):ht (c.at v w)≤N:=by
 have k1:=HB.mul (HB.mul h2 hv (2*B+2*n) (Nat.le_refl _)) hw.conj (2*(2*B+2*n)+2*k) (Nat.le_refl _)
 have k2:=hb_add k1.1 k1.1 _ (Nat.le_refl _)
 have k3:=hb_mul h1 (hv.norm (4*n) (Nat.le_refl _)) _ (Nat.le_refl _)
 have k4:=hb_mul h3 (hw.norm (4*k) (Nat.le_refl _)) _ (Nat.le_refl _)
 exact hb_add (hb_add k3 k4 _ (Nat.le_refl _)) k2 N (by omega)
theorem pnOk_pnR{P:Pn}(h:PnF P):pnOk (pnR P)=true:=by
 have hf:=h.f
 obtain⟨i,z⟩:=P
 cases i with
 | true=>exact decide_eq_true (p:=RPn.mk true rz=RPn.mk true rz) rfl
 | false =>
  show gmay (rg z)=true
  rw [gmay_rg];exact hf
end Go.Proofs.YtcboejgklgnifaaGreat
namespace Go.Proofs.YtcboejgklgnifaaGreat
open Go.RowKit Rgn Eng
variable {S:Nat→Prop} {W:World}
theorem eSpotP(P:Pn)(p1:PnF P):Calls Tryz.prog 104 #[rpnV (pnR P)] W (Ret (VP.tup (PlaceP P) (VP.is (.bool true))) S W):=by
 cases e:P.inf with
 | true=>have:=pnR_I p1 e;subst this;exact eSpotI
 | false =>
  have h:=p1.f
  obtain⟨i,z⟩:=P
  cases e
  exact eSpotZ z h
theorem rgVal{v0 v1:Value}(c:Ci)(z:Cx)(t0:(RingP c).p S v0 W)(t1:(NumP z).p S v1 W)(p0:ht c.a+ht c.b.re+ht c.b.im+ht c.c+(ht z.re+ht z.im)≤67108864):Calls Tryz.prog 215 #[v0,v1] W (Ret (RatP (c.val z)) S W):=by
 have h1:=hc_mul c.b z
 have h2:=hc_norm z
 have h3:=ht_mul c.a z.norm
 have h4:=ht_add (c.b.mul z).re (c.b.mul z).re
 refine Run.goP (S:=S) ((Pack.nil.s spRing t0).s spNum t1) Tryz.func215 rfl ?_
 refine Run.cR spNum (fun _ _ _ H=>eNMul c.b z (NumP.mk (H.f 1) (H.f 2)) (NumP.mk (H.f 4) (H.f 5)) (by first|omega|(dsimp only at *;omega))) ?_
 refine Run.cR sp2Rat (fun _ _ _ H=>eParts (c.b.mul z) (NumP.mk (H.f 6) (H.f 7))) ?_
 refine Run.dr ?_
 refine RunD.cR spRat (fun _ _ _ H=>eNorm z (NumP.mk (H.f 4) (H.f 5)) (by first|omega|(dsimp only at *;omega))) ?_
 refine RunD.cR spRat (fun _ _ _ H=>eMul c.a z.norm (RatP.n (H.f 0)) (RatP.n (H.f 10)) (by first|omega|(dsimp only at *;omega))) ?_
 refine RunD.cR spRat (fun _ _ _ H=>eTwice ((c.b.mul z).re) (H.f 8) (by first|omega|(dsimp only at *;omega))) ?_
 refine RunD.cR spRat (fun _ _ _ H=>retZ (eSum3 (c.a*z.norm) (((c.b.mul z).re)+((c.b.mul z).re)) c.c (RatsP.mk3 (H.b 2) (H.f 11) (H.f 12) (H.f 3)) (by first|omega|(dsimp only at *;omega)))) ?_
 refine RunD.en ?_
 exact Run.rR (fun _ _ _ H=>VPe (φ:=RatP) (val_eq c z) (H.f 13))
theorem rgSide{v0 v1:Value}(c:Ci)(p:Pn)(t0:(RingP c).p S v0 W)(t1:(PlaceP p).p S v1 W)(p0:ht c.a+ht c.b.re+ht c.b.im+ht c.c+(ht p.z.re+ht p.z.im)≤67108864):Calls Tryz.prog 151 #[v0,v1] W (RetV (.int .i64 (c.side p)) W):=by
 refine Run.goP (S:=S) ((Pack.nil.s spRing t0).s spPlace t1) Tryz.func151 rfl ?_
 refine (Bool.eq_false_or_eq_true (p.inf)).elim (fun c1=>?_) (fun c1=>?_)
 · refine Run.kn c1 ?_
   refine Run.cV [.int .i64 c.a.num.sign] kb (fun _ _ _ H=>qSign c.a (H.f 0)) ?_
   exact Run.rV (side_1 c1)
 · refine Run.kn c1 ?_
   refine Run.cR spRat (fun _ _ _ H=>rgVal c p.z (RingP.mk (H.f 0) (H.f 1) (H.f 2) (H.f 3)) (NumP.mk (H.f 4) (H.f 5)) p0) ?_
   refine Run.cV [.int .i64 ((c.val p.z).num.sign)] kb (fun _ _ _ H=>qSign (c.val p.z) (H.f 6)) ?_
   exact Run.rV (side_0 c1)
theorem plTold{v0:Value}(p:Pn)(t0:(PlaceP p).p S v0 W)(p0:ht p.z.re+ht p.z.im≤1073741824):Calls Tryz.prog 107 #[v0] W (RetV (.tuple #[rpnV (pncut p),.int .i64 (pnerr p)]) W):=by
 refine Run.goP (S:=S) (Pack.nil.s spPlace t0) Tryz.func107 rfl ?_
 refine (Bool.eq_false_or_eq_true (p.inf)).elim (fun c1=>?_) (fun c1=>?_)
 · refine Run.kn c1 ?_
   exact Run.rV (pcut_inf c1)
 · refine Run.kn c1 ?_
   refine Run.cV ((rgC (gcut p.z)).toList++[.int .i64 (gerr p.z)]) (.tup [.agg (ks 0 8),.o (.k 8)]) (fun _ _ _ H=>eTold p.z (NumP.mk (H.f 0) (H.f 1)) (by first|omega|(dsimp only at *;omega))) ?_
   exact Run.rV (pcut_num c1)
end Go.Proofs.YtcboejgklgnifaaGreat
namespace Go.Proofs.YtcboejgklgnifaaGreat
open Go.RowKit Rgn Eng
theorem rim_hs(a:Ci):ht a.rim.a+ht a.rim.b.re+ht a.rim.b.im+ht a.rim.c=ht a.a+ht a.b.re+ht a.b.im+ht a.c:=by
 have h1:ht a.rim.b.re=ht a.b.re:=ht_neg a.b.re
 have h2:ht a.rim.b.im=ht a.b.im:=(ht_neg (-a.b.im)).trans (ht_neg a.b.im)
 show ht a.a+ht a.rim.b.re+ht a.rim.b.im+ht a.c=_
 omega
theorem rim_pow{a:Ci}(h:a.dot a=-1):a.rim.pow=1:=by
 have h:=(dk_dot a).2 h
 show (a.b.conj.neg).norm-a.a*a.c=1
 rw [← h];unfold Cx.norm Cx.neg Cx.conj;grind
theorem rim_pos{a:Ci}(p:dsOk (rci a)=true):a.rim.pos=true:=by
 unfold Ci.pos;rw [rim_pow (dsOk_c p).2];decide
theorem fits_neg(x:Rat):fits (rf (-x))=fits (rf x):=by
 unfold fits
 have h1:(-x).num=-x.num:=rfl
 have h2:(-x).den=x.den:=rfl
 show (decide ((bS (-x).num.natAbs).size≤1024)&&decide ((bS ((-x).den:Int).natAbs).size≤1024))=(decide ((bS x.num.natAbs).size≤1024)&&decide ((bS (x.den:Int).natAbs).size≤1024))
 rw [h1,h2,Int.natAbs_neg]
theorem out_fits(a:Ci):cifits (rci a.out)=cifits (rci a):=by
 show (fits (rf (-a.a))&&(fits (rf (-a.b.re))&&fits (rf (-a.b.im)))&&fits (rf (-a.c)))=(fits (rf a.a)&&(fits (rf a.b.re)&&fits (rf a.b.im))&&fits (rf a.c))
 rw [fits_neg,fits_neg,fits_neg,fits_neg]
theorem ou_eq{a:Ci}(p:dsOk (rci a)=true):Value.tuple #[rciV (cicut a.out),.int .i64 (cierr a.out)]=.tuple #[ciV a.out,.int .i64 0]:=by
 have h:cifits (rci a.out)=true:=(out_fits a).trans (dsOk_c p).1
 rw [ok_r h,ok_e h]
section
variable {a b:Ci}
theorem dot_comm(a b:Ci):a.dot b=b.dot a:=by unfold Ci.dot Cx.mul Cx.conj;grind
theorem out_out(a:Ci):a.out.out=a:=by
 unfold Ci.out Cx.neg
 cases a with|mk x y z=>cases y with|mk u v=>simp only [Rat.neg_neg]
theorem out_sw(a b:Ci):a=b.out↔b=a.out:=⟨fun h=>by rw [h,out_out],fun h=>by rw [h,out_out]⟩
theorem touch_comm(a b:Ci):a.touch b=b.touch a:=by
 unfold Ci.touch;rw [dot_comm a b,decide_eq_decide.2 (out_sw a b)]
theorem tch_c(a b:Ci):[b.touch a].all id=a.touch b:=by rw [touch_comm a b];show (id (b.touch a)&&true)=_;rw [Bool.and_true];rfl
theorem tch_f(h:a.touch b=false):[b.touch a].all id=false:=(tch_c a b).trans h
theorem tch_t(h:a.touch b=true):[b.touch a].all id=true:=(tch_c a b).trans h
theorem to_eq(a b:Ci):Value.tuple #[.bool ([b.touch a].all id),.int .i64 0]=.tuple #[.bool (a.touch b),.int .i64 0]:=by rw [tch_c]
def Ci.apt(a b:Ci):Bool:=decide (0≤icmp ((a.dot b).num*((1:Rat).den:Int)) ((1:Rat).num*((a.dot b).den:Int)))&&decide (0≤(a.plus b).a.num.sign)&&decide (0≤(a.plus b).c.num.sign)
theorem d11:Rat.divInt 1 1=(1:Rat):=by decide
theorem apV{x y:Bool}(h:x=y):Value.tuple #[.bool x,.int .i64 0]=.tuple #[.bool y,.int .i64 0]:=by rw [h]
theorem ap_0(h:decide (0≤icmp ((a.dot b).num*((Rat.divInt 1 1).den:Int)) ((Rat.divInt 1 1).num*((a.dot b).den:Int)))=false):false=a.apt b:=by
 rw [d11] at h;unfold Ci.apt;rw [h];rfl
theorem ap_1(h:decide (0≤icmp ((a.dot b).num*((Rat.divInt 1 1).den:Int)) ((Rat.divInt 1 1).num*((a.dot b).den:Int)))=true)(h2:decide (0≤(a.plus b).a.num.sign)=false):false=a.apt b:=by
 rw [d11] at h;unfold Ci.apt;rw [h,h2];rfl
theorem ap_2(h:decide (0≤icmp ((a.dot b).num*((Rat.divInt 1 1).den:Int)) ((Rat.divInt 1 1).num*((a.dot b).den:Int)))=true)(h2:decide (0≤(a.plus b).a.num.sign)=true):decide (0≤(a.plus b).c.num.sign)=a.apt b:=by
 rw [d11] at h;unfold Ci.apt;rw [h,h2];rfl
def Ci.kis(a b:Ci):Pn:=if ((a.plus b).a.num.sign == 0)=true then ⟨true,⟨0,0⟩⟩ else ⟨false,(a.plus b).b.scale (a.plus b).a⁻¹⟩
theorem kis_1(h:((a.plus b).a.num.sign == 0)=true):a.kis b=⟨true,⟨0,0⟩⟩:=by unfold Ci.kis;rw [if_pos h]
theorem kis_0(h:((a.plus b).a.num.sign == 0)=false):a.kis b=⟨false,(a.plus b).b.scale (a.plus b).a⁻¹⟩:=by unfold Ci.kis;rw [if_neg (by rw [h];decide)]
theorem ki_1(h:((a.plus b).a.num.sign == 0)=true):Value.tuple #[rpnV ⟨true,rz⟩,.int .i64 0]=.tuple #[rpnV (pncut (a.kis b)),.int .i64 (pnerr (a.kis b))]:=by
 rw [kis_1 h];exact pcut_inf rfl
theorem ki_0(h:((a.plus b).a.num.sign == 0)=false):Value.tuple #[rpnV (pncut ⟨false,(a.plus b).b.scale (a.plus b).a⁻¹⟩),.int .i64 (pnerr ⟨false,(a.plus b).b.scale (a.plus b).a⁻¹⟩)]=.tuple #[rpnV (pncut (a.kis b)),.int .i64 (pnerr (a.kis b))]:=by
 rw [kis_0 h]
end
end Go.Proofs.YtcboejgklgnifaaGreat
namespace Go.Proofs.YtcboejgklgnifaaGreat
open Go.RowKit Rgn
@[reducible] def Mb.st:Mb:=⟨⟨1,0⟩,⟨0,0⟩,⟨0,0⟩,⟨1,0⟩,false⟩
theorem sg_pos{x:Rat}(h:0<x):x.num.sign=1:=by
 have h1:0≤x.num:=Rat.num_nonneg.2 (by grind)
 have h2:x.num≠0:=fun e=>by have:=Rat.num_eq_zero.1 e;grind
 exact Int.sign_eq_one_of_pos (by omega)
theorem sg_neg{x:Rat}(h:x<0):x.num.sign=-1:=by
 have h1:¬ 0≤x.num:=fun e=>by have:=Rat.num_nonneg.1 e;grind
 exact Int.sign_eq_neg_one_of_neg (by omega)
theorem sg_zero{x:Rat}:x.num.sign=0↔x=0:=by rw [Int.sign_eq_zero_iff_zero,Rat.num_eq_zero]
theorem rat_tri(x:Rat):x<0∨x=0∨0<x:=by
 rcases Rat.le_total (a:=0) (b:=x) with h|h<;>grind
theorem sg_flip{x y u v:Rat}(hu:0<u)(hv:0<v)(e:y*u=-(v*x)):y.num.sign=-x.num.sign:=by
 rcases rat_tri x with h|h|h
 ·have h1:0<v*-x:=Rat.mul_pos hv (by grind)
  have h2:0<y*u:=by rw [e];grind
  have h3:0<y:=by
   rcases rat_tri y with k|k|k
   ·have:=Rat.mul_pos (show 0 < -y by grind) hu;grind
   ·subst k;grind
   ·exact k
  rw [sg_neg h,sg_pos h3];rfl
 ·subst h
  have h2:y*u=0:=by rw [e];grind
  have h3:y=0:=(Rat.mul_eq_zero.1 h2).resolve_right (by grind)
  subst h3;rfl
 ·have h1:0<v*x:=Rat.mul_pos hv h
  have h2:y*u<0:=by rw [e];grind
  have h3:y<0:=by
   rcases rat_tri y with k|k|k
   ·exact k
   ·subst k;grind
   ·have:=Rat.mul_pos k hu;grind
  rw [sg_pos h,sg_neg h3]
theorem im_by(c:Ci)(n:Mb)(j:Cx)(t:Bool):c.im (n.by j) t=(c.im n t).times j.norm:=by
 obtain⟨a,⟨b1,b2⟩,f⟩:=c
 obtain⟨⟨p1,p2⟩,⟨q1,q2⟩,⟨r1,r2⟩,⟨s1,s2⟩,u⟩:=n
 obtain⟨j1,j2⟩:=j
 unfold Ci.im Ci.at Ci.mid cjC
 cases t<;>simp only [Cx.mul,Cx.add,Cx.conj,Cx.norm,Cx.scale,Ci.times,Mb.by,if_true,Bool.false_eq_true,if_false,Ci.mk.injEq,Cx.mk.injEq]<;>refine⟨?_,⟨?_,?_⟩,?_⟩<;>grind
theorem ci_ext{c d:Ci}(h1:c.a=d.a)(h2:c.b.re=d.b.re)(h3:c.b.im=d.b.im)(h4:c.c=d.c):c=d:=by
 obtain⟨a,⟨b1,b2⟩,f⟩:=c
 obtain⟨g,⟨e1,e2⟩,k⟩:=d
 simp_all
@[reducible] def Ci.duo(c d:Ci):Mb:=c.over.dot (Mb.cjM true d.over)
@[reducible] def Mb.adj(m:Mb):Mb:=Mb.cjM m.t ⟨m.d,m.b.neg,m.c.neg,m.a,m.t⟩
theorem undo_adj(m:Mb):m.undo=m.adj.nrm:=rfl
theorem adj_det{m:Mb}(h:m.det.zero=false):m.adj.det.zero=false:=by
 have e:m.adj.det=cjC m.t m.det:=by
  obtain⟨⟨p1,p2⟩,⟨q1,q2⟩,⟨r1,r2⟩,⟨s1,s2⟩,t⟩:=m
  cases t<;>refine Cx.ext' ?_ ?_<;>simp only [Mb.adj,Mb.det,Mb.cjM,cjC,Cx.conj,Cx.neg,Cx.mul,Cx.sub,if_true,Bool.false_eq_true,if_false]<;>grind
 rw [e,cj_zero];exact h
theorem of2:Cx.ofInt (0:Int) (1:Int)=⟨0,1⟩:=by decide +kernel
theorem make_zeros(z z': Int)(q n:Nat)(hz:z=q)(hz': z'=n)(hq:q≤n)(hn:n≤1099511627776)(u:World):(Instr.makeSlice 189 (.int .i64 z) (.int .i64 z')).run Tryz.prog u =
   .ok (.slice (some ⟨u.heap.size,0,none⟩) q n) (u.alloc (.cells (wcells (List.replicate n 0)) 280)):=by
 subst hz
 subst hz'
 obtain⟨i0,hi,hz0,hz1,hz2⟩:=info_parts info_u32
 have h:=run_make (P:=Tryz.prog) u 189 280 i0 (.int .u32 0) Tryz.underlying189 hi hz0 .i64 .i64 (q:Int) (n:Int) (by omega) (by omega) (by rw [hz2];omega) (by omega)
 rw [← made_wcells]
 simpa [hz1,Value.cells] using h
theorem Own.zeros{B:Nat}{w:World}(hB:B≤w.heap.size)(q n:Nat)(hq:q≤n)(hn:n≤1099511627776):Own B (w.alloc (.cells (wcells (List.replicate n 0)) 280)) (.slice (some ⟨w.heap.size,0,none⟩) q n) (List.replicate q 0):=by
 refine⟨⟨by simp [u32s],.inr ⟨w.heap.size,n,_,?_,hB,heap_alloc_new w _,?_,?_,?_,?_⟩⟩,Bd.replicate _⟩
 ·simp
 ·simpa using hq
 ·simp only [maxLen];omega
 ·simp [wcells_size]
 ·simp [wcells,u32s,List.map_replicate,List.take_replicate,Nat.min_eq_left hq]
theorem val_zeros(q:Nat):val (List.replicate q 0)=0:=by
 induction q with
 | zero=>rfl
 | succ q ih=>simp [List.replicate_succ,val,ih]
theorem up_stepq{l L:List Nat}{q k cy p:Nat}(hL:L.length=q+k)(h:val L+4294967296^(q+k)*cy=4294967296^q*(val (l.take k)*p)):val (L++[(cy+l.getD k 0*p)%4294967296])+4294967296^(q+(k+1))*((cy+l.getD k 0*p)/4294967296)=4294967296^q*(val (l.take (k+1))*p):=by
 have e:=Nat.mod_add_div (cy+l.getD k 0*p) 4294967296
 rw [val_snoc,val_take_succ,Nat.add_mul,Nat.mul_add,← h,hL,← Nat.add_assoc,Nat.pow_succ]
 generalize (cy+l.getD k 0*p)%4294967296=m at *
 generalize (cy+l.getD k 0*p)/4294967296=d at *
 have e2:4294967296^q*(4294967296^k*l.getD k 0*p)=4294967296^(q+k)*(l.getD k 0*p):=by rw [Nat.pow_add];ac_rfl
 rw [e2]
 generalize l.getD k 0*p=x at *
 generalize 4294967296^(q+k)=B at *
 rw [Nat.mul_assoc B,Nat.add_assoc,← Nat.mul_add,e,Nat.mul_add,Nat.add_assoc]
theorem bigleft_all(v:Value)(l:List Nat)(s:Nat)(w:World)(h:Words w v l)(hs:s≤274877906944)(hl:l.length≤274877906944):Calls Tryz.prog 256 #[v,.int .i64 s] w (MagRet (val l*2^s) w):=by
 have Hb:=h.bd
 obtain⟨a,c,rfl,hc1,hc2⟩:=h.len
 have H1:=Lib.hid h
 clear h
 obtain⟨q,hq⟩:∃ q,q=s/32:=⟨_,rfl⟩
 obtain⟨t,ht⟩:∃ t,t=s%32:=⟨_,rfl⟩
 have e0:(s:Int)/32=q:=by omega
 have e1:(s:Int)%32=t:=by omega
 have e2:s%32=t:=by omega
 have ht32:t<32:=by omega
 have hmk:=make_zeros ((s:Int)/32) ((s:Int)/32+(l.length:Int)+1) q (q+l.length+1) (by omega) (by omega) (by omega) (by omega)
 obtain⟨p,hp⟩:∃ p,p=2^t:=⟨_,rfl⟩
 have hps:Hid (2^s=4294967296^q*p):=by
  show _=_
  rw [hp,show s=32*q+t by omega,Nat.pow_add,Nat.pow_mul]
 have hpI:(2:Int)^t=(p:Int):=by rw [hp];simp
 have hp1:p≤2147483648:=by rw [hp];exact Nat.pow_le_pow_right (n:=2) (by decide) (by omega:t≤31)
 have hp0:0<p:=by rw [hp];exact Nat.pow_pos (by decide)
 have hor:=fun (cy x:Nat) (h1:cy<p) (h2:x<4294967296)=>or_shl hp ht32 h1 h2
 have HOR:=Lib.hid hor
 clear hp hor
 rw [e0] at hmk
 have hqb:q≤8589934592:=by omega
 clear hq ht
 go_enter Tryz.func256,Tryz.ntmps256
 go_wp2_with fail
 go_loopw [5,6,20] (fun v5 v6 v7 wr=>∃ (k cy:Nat) (L:List Nat),v6=.int .u64 cy∧v7=.int .i64 k∧k≤l.length∧cy<p∧L.length=q+k∧Hid (val L+4294967296^(q+k)*cy=4294967296^q*(val (l.take k)*p))∧Own w.heap.size wr v5 L∧Below w.heap.size w wr) (fun _ _ v7 _=>l.length-(intOf v7).toNat)
 case atStart =>
  refine⟨0,0,_,rfl,rfl,by omega,hp0,?_,?_,Own.zeros (Nat.le_refl w.heap.size) q (q+l.length+1) (by omega) (by omega),?_⟩
  ·simp
  ·show _=_;simp [val,val_zeros]
  ·go_grown
 case round =>
  obtain⟨k,cy,L,rfl,rfl,hk,hcy,hL,HS,HO,HW⟩:=hrel
  obtain⟨i0,hi,hz0,hz1,hz2⟩:=info_parts info_u32
  by_cases hkn:k<l.length
  ·have hkn' : (k:Int)<(l.length:Int):=by omega
   obtain⟨b,off,rfl,hca⟩:=(H1.out.low HW).at hkn
   have hx:=Hb.getD k
   have HS' := Lib.hid (up_stepq hL HS)
   generalize l.getD k 0=x at *
   have hq:x*p≤4294967295*p:=Nat.mul_le_mul_right _ (by omega)
   have eq:(x:Int)*(p:Int)=((x*p:Nat):Int):=by simp
   have hor:=HOR.out cy x hcy hx
   generalize x*p=y at *
   clear HS
   have hB:=HW.size
   go_wp2_with (first|(at_builtin;go_loud (refine wpList_push rfl _ _ rfl w.heap.size _ L ((cy+y)%4294967296) _ HO HW hB rfl rfl (by omega) (by omega) (by omega) ?_;intro v' w1 HO1 HW1)))
   refine⟨?_,?_⟩
   ·exact⟨k+1,(cy+y)/4294967296,_,by go_num,by go_num,by omega,by omega,by simp [hL];omega,HS', HO1,HW1⟩
   ·simp [intOf];omega
  ·have hkn' : ¬ (k:Int)<(l.length:Int):=by omega
   have e:k=l.length:=by omega
   have HV:Hid (val (L++[cy])=val l*2^s):=by
    show _=_
    rw [val_snoc,hL,HS.out,e,List.take_length,hps.out]
    ac_rfl
   clear HS
   have hB:=HW.size
   go_wp2_with (first|(at_builtin;refine wpList_push rfl _ _ rfl w.heap.size _ L cy _ HO HW hB rfl rfl (by omega) (by omega) (by omega) ?_;intro v' w1 HO1 HW1))
   go_call (bigcut_any _ _ _ HO1.words) as _ _ ⟨rfl,rfl⟩
   go_wp2
   go_ret
   exact⟨_,rfl,⟨_,HO1.words.cut,trim_canon _,by rw [val_trim,HV.out]⟩,HW1⟩
end Go.Proofs.YtcboejgklgnifaaGreat
namespace Go.Proofs.YtcboejgklgnifaaGreat
open Go.RowKit Rgn
variable {S:Nat→Prop} {W:World}
theorem bLeft{v0:Value}(a:Nat)(n:Int)(t0:(MagP a).p S v0 W)(p0:bl a≤1099511627776)(p1:0≤n)(p2:n≤274877906944):Calls Tryz.prog 256 #[v0,.int .i64 n] W (Ret (RawP (a*2^n.toNat)) S W):=by
 obtain⟨l,h1,h2,h3,h4⟩:=Mag.words t0 p0
 subst h3
 obtain⟨k,rfl⟩:=Int.eq_ofNat_of_zero_le p1
 exact (bigleft_all v0 l k W h1 (by omega) (by omega)).mono fun e w' ⟨v,h1,⟨l', h2,_,h3⟩,h4⟩=>⟨v,h1,⟨l', h2,h3⟩,h4⟩
theorem bRight{v0:Value}(a:Nat)(n:Int)(t0:(MagP a).p S v0 W)(p0:bl a≤1099511627776)(p1:0≤n)(p2:n<32):Calls Tryz.prog 257 #[v0,.int .i64 n] W (Ret (RawP (a/2^n.toNat)) S W):=by
 obtain⟨l,h1,h2,h3,h4⟩:=Mag.words t0 p0
 subst h3
 obtain⟨k,rfl⟩:=Int.eq_ofNat_of_zero_le p1
 exact (bigright_any v0 l k W h1 (by omega) (by omega)).mono fun e w' ⟨v,h1,⟨l', h2,_,h3⟩,h4⟩=>⟨v,h1,⟨l', h2,h3⟩,h4⟩
theorem sgn_shl(x:Int)(k:Nat):sgn (decide (x<0)) (x.natAbs*2^k)=x*2^k:=by
 have h:=sgn_self x
 have e:((2^k:Nat):Int)=2^k:=by simp
 revert h
 unfold sgn
 rw [Int.natCast_mul,e]
 generalize (2:Int)^k=p
 by_cases c:x<0<;>simp only [c,decide_true,decide_false,if_true,Bool.false_eq_true,if_false]<;>intro h
 ·rw [← Int.neg_mul,h]
 ·rw [h]
theorem sgn_shr{x:Int}(h:0≤x)(k:Nat):sgn false (x.natAbs/2^k)=x/2^k:=by
 show ((x.natAbs/2^k:Nat):Int)=_
 rw [Int.natCast_ediv,Int.natAbs_of_nonneg h];simp
def isqA(n:Nat):Nat→Nat
 | 0=>0
 | k+1=>if (k+1)*(k+1)≤n then k+1 else isqA n k
def isq(n:Nat):Nat:=isqA n n
theorem isqA_le(n:Nat):∀ k,isqA n k*isqA n k≤n
 | 0=>by simp [isqA]
 | k+1=>by
  unfold isqA
  split
  ·assumption
  ·exact isqA_le n k
theorem isqA_ge(n:Nat):∀ k m,m≤k→m*m≤n→m≤isqA n k
 | 0,m,h,_=>by omega
 | k+1,m,h,h2=>by
  unfold isqA
  split
  ·omega
  ·rename_i c
   rcases Nat.lt_or_ge k m with e|e
   ·have:m=k+1:=by omega
    subst this;exact absurd h2 c
   ·exact isqA_ge n k m e h2
theorem isq_le(n:Nat):isq n*isq n≤n:=isqA_le n n
theorem le_isq{n m:Nat}(h:m*m≤n):m≤isq n:=isqA_ge n n m (by
 rcases Nat.eq_zero_or_pos m with e|e
 ·omega
 ·exact Nat.le_trans (Nat.le_mul_of_pos_left m e) h) h
theorem isq_eq{n m:Nat}(h:m*m≤n)(h2:isq n≤m):isq n=m:=Nat.le_antisymm h2 (le_isq h)
theorem isq_sq(m:Nat):isq (m*m)=m:=by
 refine isq_eq (Nat.le_refl _) ?_
 have h:=isq_le (m*m)
 rcases Nat.lt_or_ge m (isq (m*m)) with e|e
 ·have:=Nat.mul_lt_mul'' e e;omega
 ·exact e
def SqI(x r:Int):Prop:=0<x∧0<r∧(isq x.natAbs:Int)≤r∧hi r≤hi x+2
theorem sqi_start{x:Int}(h:0≤x)(h2:(x.sign == 0)=false):SqI x ((1:Int)*2^((((bl x.natAbs:Nat):Int)/2+1)).toNat):=by
 have hx:0<x:=by
  rcases Int.lt_or_eq_of_le h with e|e
  ·exact e
  ·subst e;simp at h2
 have e:((((bl x.natAbs:Nat):Int)/2+1)).toNat=bl x.natAbs/2+1:=by omega
 rw [e,Int.one_mul]
 have e2:(2:Int)^(bl x.natAbs/2+1)=((2^(bl x.natAbs/2+1):Nat):Int):=by simp
 rw [e2]
 refine⟨hx,by have:=Nat.pow_pos (a:=2) (n:=bl x.natAbs/2+1) (by decide);omega,?_,?_⟩
 ·have h3:=isq_le x.natAbs
  have h4:=bl_le.1 (Nat.le_refl (bl x.natAbs))
  have h5:2^(bl x.natAbs)≤2^(bl x.natAbs/2+1)*2^(bl x.natAbs/2+1):=by
   rw [← Nat.pow_add];exact Nat.pow_le_pow_right (by decide) (by omega)
  generalize 2^(bl x.natAbs/2+1)=p at *
  rcases Nat.lt_or_ge p (isq x.natAbs) with c|c
  ·have:=Nat.mul_lt_mul'' c c;omega
  ·omega
 ·have:bl (2^(bl x.natAbs/2+1))≤bl x.natAbs/2+2:=bl_le.2 (Nat.pow_lt_pow_right (by decide) (by omega))
  simp only [hi,Int.natAbs_natCast];omega
theorem sqi_q{x r:Int}(h:SqI x r):x.tdiv r=x/r∧0≤x/r:=by
 obtain⟨h1,h2,-,-⟩:=h
 exact⟨Int.tdiv_eq_ediv_of_nonneg (by omega),Int.ediv_nonneg (by omega) (by omega)⟩
theorem sqi_two(a:Int):a/2^(1:Int).toNat=a/2:=rfl
theorem sqi_h{x r:Int}(h:SqI x r)(p:hi x≤68719476736):hi x+hi r≤1099511627776∧r≠0∧hi (x.tdiv r)+hi r≤1099511627776∧hi (x.tdiv r+r)≤1099511627776∧0≤x.tdiv r+r∧hi ((x.tdiv r+r)/2^(1:Int).toNat)+hi r≤1099511627776∧hi r≤1099511627776:=by
 obtain⟨e,e0⟩:=sqi_q h
 obtain⟨h1,h2,h3,h4⟩:=h
 have h5:=hi_tdiv x r
 have h6:=hi_add (x.tdiv r) r
 have h7:hi ((x.tdiv r+r)/2^(1:Int).toNat)≤hi (x.tdiv r+r):=by
  rw [sqi_two];unfold hi
  have:=@bl_mono ((x.tdiv r+r)/2).natAbs (x.tdiv r+r).natAbs (by rw [e];generalize x/r=q at *;clear h4 h5 h6 p e h3;omega)
  omega
 refine⟨by omega,by omega,by omega,by omega,by omega,by omega,by omega⟩
theorem sqi_step{x r:Int}(h:SqI x r)(h2:¬ 0≤icmp ((x.tdiv r+r)/2^(1:Int).toNat) r):SqI x ((x.tdiv r+r)/2^(1:Int).toNat)∧((x.tdiv r+r)/2^(1:Int).toNat).toNat<r.toNat:=by
 obtain⟨e,e0⟩:=sqi_q h
 obtain⟨h1,h3,h4,h5⟩:=h
 rw [sqi_two,e] at h2 ⊢
 have h6:(x/r+r)/2<r:=by
  rcases Int.lt_or_le ((x/r+r)/2) r with c|c
  ·exact c
  ·exfalso;apply h2;unfold icmp;split<;>(try split)<;>omega
 have s1:1≤isq x.natAbs:=le_isq (by omega)
 have s2:(isq x.natAbs:Int)*(isq x.natAbs:Int)≤x:=by
  have:=isq_le x.natAbs
  have e3:((isq x.natAbs*isq x.natAbs:Nat):Int)=(isq x.natAbs:Int)*(isq x.natAbs:Int):=by simp
  omega
 have h7:2*(isq x.natAbs:Int)-r≤x/r:=by
  rw [Int.le_ediv_iff_mul_le h3]
  have h8:0≤(r-(isq x.natAbs:Int))*(r-(isq x.natAbs:Int)):=Int.mul_nonneg (by omega) (by omega)
  have h9:(2*(isq x.natAbs:Int)-r)*r=(isq x.natAbs:Int)*(isq x.natAbs:Int)-(r-(isq x.natAbs:Int))*(r-(isq x.natAbs:Int)):=by grind
  omega
 refine⟨⟨h1,by omega,by omega,?_⟩,by omega⟩
 have:=@bl_mono ((x/r+r)/2).natAbs r.natAbs (by omega)
 unfold hi at *;omega
theorem sqi_end{x r:Int}(h:SqI x r)(h2:0≤icmp ((x.tdiv r+r)/2^(1:Int).toNat) r):r=(isq x.natAbs:Int):=by
 obtain⟨e,e0⟩:=sqi_q h
 obtain⟨h1,h3,h4,h5⟩:=h
 rw [sqi_two,e] at h2
 have h6:r≤(x/r+r)/2:=by
  rcases Int.lt_or_le ((x/r+r)/2) r with c|c
  ·exfalso;rw [icmp_lt c] at h2;exact absurd h2 (by decide)
  ·exact c
 have h7:r≤x/r:=by omega
 rw [Int.le_ediv_iff_mul_le h3] at h7
 obtain⟨n,rfl⟩:=Int.eq_ofNat_of_zero_le (Int.le_of_lt h3)
 have h8:n*n≤x.natAbs:=by
  have:((n*n:Nat):Int)=(n:Int)*(n:Int):=by simp
  omega
 have:=le_isq h8
 omega
theorem sign_pos{x:Int}(h:0<x):(x.sign == 0)=false:=by rw [Int.sign_eq_one_of_pos h];rfl
theorem isq_zero{x:Int}(h:(x.sign == 0)=true):sgn false 0=(isq x.natAbs:Int):=by
 have:x=0:=Int.sign_eq_zero_iff_zero.1 (eq_of_beq h)
 subst this;rfl
theorem raw_nil{w:World}:(RawP 0).p (fun _=>False) (.slice none 0 0) w:=⟨[],.inl ⟨rfl,rfl⟩,rfl⟩
theorem bLsh{z:Nat}{v1:Value}(x n:Int)(hz:IntBlk W z)(t1:(IntP x).p S v1 W)(p0:hi x≤1099511627776)(p1:0≤n)(p2:n≤274877906944):Calls Tryz.prog 239 #[.pointer (some ⟨z,0,none⟩),v1,.int .u64 n] W (RetOwn z (IntO (x*2^n.toNat)) W):=by
 have hS_:∃ S' : Nat→Prop,S' z∧(IntP x).p S' v1 W:=⟨fun k=>S k∨k=z,.inr rfl,(IntP x).mono (fun _ _ h=>.inl h) t1⟩
 clear t1
 obtain⟨S,L_z,t1⟩:=hS_
 replace L_z:Amb S W z:=.inl L_z
 obtain⟨z_0,z_1,B_z⟩:=hz
 obtain⟨b1,ob1,rfl,L1,F1⟩:=IntP.elim t1
 replace L1:Amb S W b1:=.inl L1
 have q0:=hi_bl x
 have bel:Only z W W:=Only.refl _ _
 go_enter Tryz.func239,Tryz.ntmps239
 refine gs 1 (Amb S W) fun _ K2=>?_
 refine .mc rfl ?_
 refine .dg (fun u=>pt z::.pointer (some ⟨b1,ob1,none⟩)::.int .u64 n::U::U::U::u 0::us 13) K2 bel.size fun u1 w1 D=>?_
 have E1_0:=D.q 0
 replace B_z:=D.k B_z
 replace F1:=D.o L1 F1
 replace bel:=D.d.base.only0 bel
 clear D
 refine wp_seq_k fun _ K3=>?_
 refine go2_drawnT (by kernel_rfl) 12 2 rfl (by decide) (by kernel_rfl) (Amb S W) [] [] (Olds.nil _) (by kernel_rfl) ?_
 refine .mz rfl 0 (V:=pt z) rfl ?_
 refine .mz rfl 1 (V:=.pointer (some ⟨b1,ob1,none⟩)) rfl ?_
 refine .nc rfl 1 ?_
 refine .fj rfl 2 ob1 ?_
 refine .e rfl (V:=.bool (decide (x<0))) (fun H=>by have e10:=H.g 10 3;have c1:=IntP.c0 (k:=ob1) (VP.any _ (H.was _ [] (VP.at F1 L1))) rfl;clear H;go_simp) ?_
 refine .mz rfl 1 (V:=.pointer (some ⟨b1,ob1,none⟩)) rfl ?_
 refine .nc rfl 5 ?_
 refine .fj rfl 6 (ob1+1) ?_
 refine Go2.fn (i:=8) rfl (G0 rfl) (.val 8 [] (MagP x.natAbs)) (fun u μ ρ H=>by have e14:=H.g 14 7;obtain⟨v_,c1,hm_⟩:=IntP.c1 (k:=ob1+1) (VP.any _ (H.was _ [] (VP.at F1 L1))) rfl;exact⟨v_,by clear H hm_;go_simp,SP.magVal hm_⟩) ?_
 refine .mz rfl 2 (V:=.int .u64 n) rfl ?_
 refine .e rfl (V:=.int .i64 (n)) (fun H=>by have e16:=H.g 16 9;have aw_:IntKind.wrap .i64 (n)=n:=IntWalk.i64_in _ (by omega);clear H;go_simp) ?_
 refine .cR rfl [8] Tryz.func256 (fun H=>⟨_,ar2 (H.r 15 8) (H.g 17 10),bLeft _ _ (SV.sub [8] (H.a 8 rfl) rfl) (by omega) (by omega) (by omega)⟩) ?_
 refine .dT (fun u=>pt z::.pointer (some ⟨b1,ob1,none⟩)::.int .u64 n::U::U::U::u 13::sq u 0 13 []) bel.size _ rfl fun u2 w2 D=>?_
 obtain⟨x4,E2_11,F_x4⟩:∃ x_,(u2 11).v=x_∧(RawP (x.natAbs*2^(n).toNat)).p (Amb S W) x_ w2:=⟨_,rfl,D.rr 11⟩
 have E2_0:=D.q 0
 have E2_4:=D.q 4
 replace B_z:=D.k B_z
 replace bel:=D.d.base.only0 bel
 clear D
 refine wpT_callO (args:=#[pt z,.bool (decide (x<0)),x4]) rfl (ex_call rfl rfl Tryz.func221 (by kernel_rfl) (by kernel_rfl) (by simp only [List.map_toArray,List.map_cons,List.map_nil];show #[(u2 0).v,(u2 4).v,(u2 11).v]=#[pt z,.bool (decide (x<0)),x4];rw [E2_0,E2_4,E2_11])) (bIs (z:=z) (neg:=(decide (x<0))) (n:=x.natAbs*2^(n).toNat) (IntBlk.of B_z) (VP.any _ F_x4) ) fun w5 fw5 ow5=>?_
 have sw5:Soft w2 z∨Local w2 z:=.inl ⟨_,_,B_z,rfl⟩
 replace F_x4:(RawP (x.natAbs*2^(n).toNat)).p (Amb S W) x4 w5:=(RawP (x.natAbs*2^(n).toNat)).grow (S:=fun _=>False) (Rgn.Only.growF ow5 sw5) F_x4
 have F_z:=fw5
 replace bel:=bel.trans ow5
 refine wpT_val rfl (ex_assign rfl) ?_
 refine wpList_nil ?_
 show _
 refine K3 _ _ ?_
 refine wp_ret ?_
 refine ret_ok rfl (by exact results_tmp' rfl rfl) ⟨rfl,?_,bel⟩
 exact into_eq (sgn_shl x n.toNat) F_z
theorem bRsh{z:Nat}{v1:Value}(x n:Int)(hz:IntBlk W z)(t1:(IntP x).p S v1 W)(p0:hi x≤1099511627776)(p1:0≤n)(p2:n<32)(p3:0≤x):Calls Tryz.prog 241 #[.pointer (some ⟨z,0,none⟩),v1,.int .u64 n] W (RetOwn z (IntO (x/2^n.toNat)) W):=by
 have hS_:∃ S' : Nat→Prop,S' z∧(IntP x).p S' v1 W:=⟨fun k=>S k∨k=z,.inr rfl,(IntP x).mono (fun _ _ h=>.inl h) t1⟩
 clear t1
 obtain⟨S,L_z,t1⟩:=hS_
 replace L_z:Amb S W z:=.inl L_z
 obtain⟨z_0,z_1,B_z⟩:=hz
 obtain⟨b1,ob1,rfl,L1,F1⟩:=IntP.elim t1
 replace L1:Amb S W b1:=.inl L1
 have q0:=hi_bl x
 have k0:decide (x<0)=false:=decide_eq_false (by omega)
 have bel:Only z W W:=Only.refl _ _
 go_enter Tryz.func241,Tryz.ntmps241
 refine gs 1 (Amb S W) fun _ K2=>?_
 refine .mc rfl ?_
 refine .dg (fun u=>pt z::.pointer (some ⟨b1,ob1,none⟩)::.int .u64 n::U::U::U::u 0::us 34) K2 bel.size fun u1 w1 D=>?_
 have E1_0:=D.q 0
 replace B_z:=D.k B_z
 replace F1:=D.o L1 F1
 replace bel:=D.d.base.only0 bel
 clear D
 refine gs 8 (Amb S W) fun _ K3=>?_
 refine .mz rfl 1 (V:=.pointer (some ⟨b1,ob1,none⟩)) rfl ?_
 refine .nc rfl 0 ?_
 refine .fj rfl 1 (ob1+1) ?_
 refine Go2.fn (i:=3) rfl (G0 rfl) (.val 3 [] (MagP x.natAbs)) (fun u μ ρ H=>by have e10:=H.g 10 2;obtain⟨v_,c1,hm_⟩:=IntP.c1 (k:=ob1+1) (VP.any _ (H.was _ [] (VP.at F1 L1))) rfl;exact⟨v_,by clear H hm_;go_simp,SP.magVal hm_⟩) ?_
 refine .mz rfl 2 (V:=.int .u64 n) rfl ?_
 refine .e rfl (V:=.int .i64 (n)) (fun H=>by have e12:=H.g 12 4;have aw_:IntKind.wrap .i64 (n)=n:=IntWalk.i64_in _ (by omega);clear H;go_simp) ?_
 refine .cR rfl [3] Tryz.func257 (fun H=>⟨_,ar2 (H.r 11 3) (H.g 13 5),bRight _ _ (SV.sub [3] (H.a 3 rfl) rfl) (by omega) (by omega) (by omega)⟩) ?_
 refine .mn rfl 6 [3,6] ?_
 refine .dg (fun u=>pt z::.pointer (some ⟨b1,ob1,none⟩)::.int .u64 n::U::U::U::u1 0::u 7::sq u 0 7 (us 26)) K3 bel.size fun u2 w2 D=>?_
 obtain⟨x4,E2_7,F_x4⟩:∃ x_,(u2 7).v=x_∧(RawP (x.natAbs/2^(n).toNat)).p (Amb S W) x_ w2:=⟨_,rfl,D.rr 7⟩
 replace B_z:=D.k B_z
 replace F1:=D.o L1 F1
 replace bel:=D.d.base.only0 bel
 clear D
 refine wp_seq_k fun _ K5=>?_
 refine gd 16 (Amb S W) fun _ K6=>?_
 refine .mz rfl 1 (V:=.pointer (some ⟨b1,ob1,none⟩)) rfl ?_
 refine .nc rfl 0 ?_
 refine .fj rfl 1 ob1 ?_
 refine .e rfl (V:=.bool false) (fun H=>by have e17:=H.g 17 2;have c1:=IntP.c0 (k:=ob1) (VP.any _ (H.was _ [] (VP.at F1 L1))) rfl;have k_:=k0;clear H;go_simp) ?_
 refine .mv rfl 3 ?_
 refine .sk rfl 4 ?_
 refine .sk rfl 4 ?_
 refine .sk rfl 4 ?_
 refine .sk rfl 4 ?_
 refine .sk rfl 4 ?_
 refine .sk rfl 4 ?_
 refine .sk rfl 4 ?_
 refine .sk rfl 4 ?_
 refine .sk rfl 4 ?_
 refine .sk rfl 4 ?_
 refine .e rfl (fun H=>x_pkF (H.g 19 4) (H.c _)) ?_
 refine .dg (fun u=>pt z::.pointer (some ⟨b1,ob1,none⟩)::.int .u64 n::U::U::U::u1 0::u2 7::sq u2 0 7 (sq u 0 16 (us 10))) K6 bel.size fun u3 w3 D=>?_
 have E3_15:=D.q 15
 replace B_z:=D.k B_z
 replace F1:=D.o L1 F1
 replace F_x4:=D.gr (RawP (x.natAbs/2^(n).toNat)) F_x4
 replace bel:=D.d.base.only0 bel
 clear D
 refine wp_cond_false (by exact E3_15) ?_
 refine wp_skip ?_
 refine K5 _ _ ?_
 refine wp_seq_k fun _ K7=>?_
 refine go2_seqT 6 2 rfl (Amb S W) [] [] (Olds.nil _) (by kernel_rfl) ?_
 refine .mz rfl 0 (V:=pt z) rfl ?_
 refine .mz rfl 1 (V:=.pointer (some ⟨b1,ob1,none⟩)) rfl ?_
 refine .nc rfl 1 ?_
 refine .fj rfl 2 ob1 ?_
 refine .e rfl (V:=.bool false) (fun H=>by have e37:=H.g 37 3;have c1:=IntP.c0 (k:=ob1) (VP.any _ (H.was _ [] (VP.at F1 L1))) rfl;have k_:=k0;clear H;go_simp) ?_
 refine .mz rfl 7 E2_7 ?_
 refine .dT (fun u=>pt z::.pointer (some ⟨b1,ob1,none⟩)::.int .u64 n::U::U::U::u 7::u2 7::sq u2 0 7 (sq u3 0 16 (U::U::U::sq u 0 7 []))) bel.size _ rfl fun u4 w4 D=>?_
 have E4_0:=D.q 0
 have E4_4:=D.q 4
 have E4_5:=D.q 5
 replace B_z:=D.k B_z
 replace F_x4:=D.gr (RawP (x.natAbs/2^(n).toNat)) F_x4
 replace bel:=D.d.base.only0 bel
 clear D
 refine wpT_callO (args:=#[pt z,.bool false,x4]) rfl (ex_call rfl rfl Tryz.func221 (by kernel_rfl) (by kernel_rfl) (by simp only [List.map_toArray,List.map_cons,List.map_nil];show #[(u4 0).v,(u4 4).v,(u4 5).v]=#[pt z,.bool false,x4];rw [E4_0,E4_4,E4_5])) (bIs (z:=z) (neg:=false) (n:=x.natAbs/2^(n).toNat) (IntBlk.of B_z) (VP.any _ F_x4) ) fun w8 fw8 ow8=>?_
 have sw8:Soft w4 z∨Local w4 z:=.inl ⟨_,_,B_z,rfl⟩
 replace F_x4:(RawP (x.natAbs/2^(n).toNat)).p (Amb S W) x4 w8:=(RawP (x.natAbs/2^(n).toNat)).grow (S:=fun _=>False) (Rgn.Only.growF ow8 sw8) F_x4
 have F_z:=fw8
 replace bel:=bel.trans ow8
 refine wpT_val rfl (ex_assign rfl) ?_
 refine wpList_nil ?_
 show _
 refine K7 _ _ ?_
 refine wp_ret ?_
 refine ret_ok rfl (by exact results_tmp' rfl rfl) ⟨rfl,?_,bel⟩
 exact into_eq (sgn_shr p3 n.toNat) F_z
theorem bSqrtP{z:Nat}{v1:Value}(x:Int)(hz:IntBlk W z)(t1:(IntP x).p S v1 W)(p0:hi x≤68719476736)(p1:0<x):Calls Tryz.prog 202 #[.pointer (some ⟨z,0,none⟩),v1] W (RetOwn z (IntO (isq x.natAbs:Int)) W):=by
 have hS_:∃ S' : Nat→Prop,S' z∧(IntP x).p S' v1 W:=⟨fun k=>S k∨k=z,.inr rfl,(IntP x).mono (fun _ _ h=>.inl h) t1⟩
 clear t1
 obtain⟨S,L_z,t1⟩:=hS_
 replace L_z:Amb S W z:=.inl L_z
 obtain⟨z_0,z_1,B_z⟩:=hz
 obtain⟨b1,ob1,rfl,L1,F1⟩:=IntP.elim t1
 replace L1:Amb S W b1:=.inl L1
 have q0:=hi_bl x
 have h1_:hi (1:Int)=2:=by decide
 have k0:(x.sign == 0)=false:=sign_pos p1
 have bel:Only z W W:=Only.refl _ _
 go_enter Tryz.func202,Tryz.ntmps202
 refine gs 1 (Amb S W) fun _ K2=>?_
 refine .mc rfl ?_
 refine .dg (fun u=>pt z::.pointer (some ⟨b1,ob1,none⟩)::U::U::u 0::us 33) K2 bel.size fun u1 w1 D=>?_
 have E1_0:=D.q 0
 replace B_z:=D.k B_z
 replace F1:=D.o L1 F1
 replace bel:=D.d.base.only0 bel
 clear D
 refine wp_seq_k fun _ K3=>?_
 refine gs 3 (Amb S W) fun _ K4=>?_
 refine .mz rfl 1 (V:=.pointer (some ⟨b1,ob1,none⟩)) rfl ?_
 refine .cK rfl Tryz.func167 (fun H=>⟨_,ar1 (H.g 7 0),bSign _ (VP.any _ (H.was _ [] (VP.at F1 L1)))⟩) ?_
 refine .e rfl (V:=.bool false) (fun H=>x_cm (H.g 8 1) (H.c _) k0) ?_
 refine .dg (fun u=>pt z::.pointer (some ⟨b1,ob1,none⟩)::U::U::u1 0::U::U::sq u 0 3 (us 28)) K4 bel.size fun u2 w2 D=>?_
 have E2_2:=D.q 2
 replace B_z:=D.k B_z
 replace F1:=D.o L1 F1
 replace bel:=D.d.base.only0 bel
 clear D
 refine wp_cond_false (by exact E2_2) ?_
 refine wp_skip ?_
 refine K3 _ _ ?_
 refine gs 9 (Amb S W) fun _ K5=>?_
 refine .al rfl zI ?_
 refine .cR rfl [] Tryz.func201 (fun H=>⟨_,ar1 (H.c (.int .i64 1)),bNewInt _ (by first|omega|(have sh_:=sqi_h i0 p0;first|omega|exact sh_.1|exact sh_.2.1|exact sh_.2.2.1|exact sh_.2.2.2.1|exact sh_.2.2.2.2.1)) (by first|omega|(have sh_:=sqi_h i0 p0;first|omega|exact sh_.1|exact sh_.2.1|exact sh_.2.2.1|exact sh_.2.2.2.1|exact sh_.2.2.2.2.1))⟩) ?_
 refine .mz rfl 1 (V:=.pointer (some ⟨b1,ob1,none⟩)) rfl ?_
 refine .cK rfl Tryz.func240 (fun H=>⟨_,ar1 (H.g 14 2),bBitLen _ (VP.any _ (H.was _ [] (VP.at F1 L1))) (by first|omega|(have sh_:=sqi_h i0 p0;first|omega|exact sh_.1|exact sh_.2.1|exact sh_.2.2.1|exact sh_.2.2.2.1|exact sh_.2.2.2.2.1))⟩) ?_
 refine .e rfl (V:=.int .i64 (((bl x.natAbs:Nat):Int)/2)) (fun H=>by have e15:=H.g 15 3;have k1:=H.c (.int .i64 2);have a0_:0≤((bl x.natAbs:Nat):Int):=(by omega);have aw_:IntKind.wrap .i64 (((bl x.natAbs:Nat):Int)/2)=((bl x.natAbs:Nat):Int)/2:=IntWalk.i64_in _ (by omega);clear H;go_simp) ?_
 refine .e rfl (V:=.int .i64 ((((bl x.natAbs:Nat):Int)/2)+1)) (fun H=>x_ari (H.g 16 4) (H.c _) (IntWalk.i64_in _ (by omega))) ?_
 refine .e rfl (V:=.int .u64 ((((bl x.natAbs:Nat):Int)/2)+1)) (fun H=>by have e17:=H.g 17 5;have aw_:IntKind.wrap .u64 ((((bl x.natAbs:Nat):Int)/2)+1)=(((bl x.natAbs:Nat):Int)/2)+1:=IntWalk.u64_in _ (by omega);clear H;go_simp) ?_
 refine .cO rfl 0 Tryz.func239 (fun H h0 hz=>⟨_,ar3 (H.p 12 0 h0) (H.r 13 1) (H.g 18 6),bLsh _ _ (IntBlk.of hz) (IntO.p (SV.any (H.a 1 rfl))) (by first|omega|(have sh_:=sqi_h i0 p0;first|omega|exact sh_.1|exact sh_.2.1|exact sh_.2.2.1|exact sh_.2.2.2.1|exact sh_.2.2.2.2.1)) (by first|omega|(have sh_:=sqi_h i0 p0;first|omega|exact sh_.1|exact sh_.2.1|exact sh_.2.2.1|exact sh_.2.2.2.1|exact sh_.2.2.2.2.1)) (by first|omega|(have sh_:=sqi_h i0 p0;first|omega|exact sh_.1|exact sh_.2.1|exact sh_.2.2.1|exact sh_.2.2.2.1|exact sh_.2.2.2.2.1))⟩) ?_
 refine .mo rfl 7 ?_
 refine .dg (fun u=>pt z::.pointer (some ⟨b1,ob1,none⟩)::U::U::u1 0::u 8::U::sq u2 0 3 (U::U::sq u 0 8 (us 18))) K5 bel.size fun u3 w3 D=>?_
 obtain⟨b6,E3_8,A6,F6⟩:=D.ow 8
 have N_z_b6:=D.n1 0 (lt_of B_z) ((D.a 8 rfl).1.symm.trans E3_8)
 replace B_z:=D.k B_z
 replace F1:=D.o L1 F1
 have L6:Amb S W b6:=.inr A6
 replace bel:=D.d.base.only0 bel
 clear D
 refine wp_block ?_
 refine wp_loop_ghost_k (fun n_ a_ w_=>∃ d4:Value,∃ s5:Value,∃ d6:Value,∃ d20:Value,∃ d21:Value,∃ d22:Value,∃ d23:Value,∃ d24:Value,∃ d25:Value,∃ d26:Value,∃ d27:Value,∃ d28:Value,∃ d29:Value,∃ d30:Value,∃ d31:Value,∃ d32:Value,∃ d33:Value,∃ d34:Value,∃ d35:Value,∃ d36:Value,∃ d37:Value,∃ r:Int,a_=fr (pt z::.pointer (some ⟨b1,ob1,none⟩)::U::U::d4::s5::d6::sq u2 0 3 (U::U::sq u3 0 8 (d20::d21::d22::d23::d24::d25::d26::d27::d28::d29::d30::d31::d32::d33::d34::d35::d36::d37::[])))∧n_=r.toNat∧SqI x r∧(IntO r).p (Amb S W) s5 w_∧w_.heap[z]? = some (.cells #[z_0,z_1] 191 (0,0))∧(IntP x).p (·=b1) (.pointer (some ⟨b1,ob1,none⟩)) w_∧Only z W w_) (((1:Int)*2^((((bl x.natAbs:Nat):Int)/2+1)).toNat).toNat) ⟨_,_,_,_,_,_,_,_,_,_,_,_,_,_,_,_,_,_,_,_,_,(1:Int)*2^((((bl x.natAbs:Nat):Int)/2+1)).toNat,rfl,rfl,by exact sqi_start (Int.le_of_lt p1) k0,(by rw [E3_8];exact (VP.at F6 L6)),B_z,F1,bel⟩ ?_
 clear B_z F1 F6 bel
 rintro n_ _ w7 ⟨d4,s5,d6,d20,d21,d22,d23,d24,d25,d26,d27,d28,d29,d30,d31,d32,d33,d34,d35,d36,d37,r,rfl,hn10,i0,f5,B_z,F1,bel⟩ J8 K9 hJ8 hK9
 obtain⟨b11,rfl,L11,F11⟩:=IntO.elim f5
 refine wp_block ?_
 refine gs 5 (Amb S W) fun _ K12=>?_
 refine .al rfl zI ?_
 refine .mz rfl 1 (V:=.pointer (some ⟨b1,ob1,none⟩)) rfl ?_
 refine .mz rfl 5 (V:=pt b11) rfl ?_
 refine .cO rfl 0 Tryz.func235 (fun H h0 hz=>⟨_,ar3 (H.p 20 0 h0) (H.g 21 1) (H.g 22 2),bQuo _ _ (IntBlk.of hz) (VP.any _ (H.was _ [] (VP.at F1 L1))) (IntO.p (VP.any _ (H.was _ [] (VP.at F11 L11)))) (by first|omega|(have sh_:=sqi_h i0 p0;first|omega|exact sh_.1|exact sh_.2.1|exact sh_.2.2.1|exact sh_.2.2.2.1|exact sh_.2.2.2.2.1)) (by first|omega|(have sh_:=sqi_h i0 p0;first|omega|exact sh_.1|exact sh_.2.1|exact sh_.2.2.1|exact sh_.2.2.2.1|exact sh_.2.2.2.2.1))⟩) ?_
 refine .mo rfl 3 ?_
 refine .dg (fun u=>pt z::.pointer (some ⟨b1,ob1,none⟩)::U::U::d4::pt b11::u 4::sq u2 0 3 (U::U::sq u3 0 8 (sq u 0 4 (d24::d25::d26::d27::d28::d29::d30::d31::d32::d33::d34::d35::d36::d37::[])))) K12 bel.size fun u4 w4 D=>?_
 obtain⟨b13,E4_4,A13,F13⟩:=D.ow 4
 have N_z_b13:=D.n1 0 (lt_of B_z) ((D.a 4 rfl).1.symm.trans E4_4)
 have N1_13:=D.n1 0 (IntP.lt F1) ((D.a 4 rfl).1.symm.trans E4_4)
 have N11_13:=D.n1 0 (IntO.lt F11) ((D.a 4 rfl).1.symm.trans E4_4)
 replace B_z:=D.k B_z
 replace F1:=D.o L1 F1
 replace F11:=D.o L11 F11
 have L13:Amb S W b13:=.inr A13
 replace bel:=D.d.base.only0 bel
 clear D
 refine wp_seq_k fun _ K14=>?_
 refine go2_seqT 4 2 rfl (Amb S W) [] [] (Olds.nil _) (by kernel_rfl) ?_
 refine .mz rfl 6 E4_4 ?_
 refine .mz rfl 6 E4_4 ?_
 refine .mz rfl 6 E4_4 ?_
 refine .mz rfl 5 (V:=pt b11) rfl ?_
 refine .dT (fun u=>pt z::.pointer (some ⟨b1,ob1,none⟩)::U::U::d4::pt b11::u4 4::sq u2 0 3 (U::U::sq u3 0 8 (sq u4 0 4 (sq u 0 6 (d30::d31::d32::d33::d34::d35::d36::d37::[]))))) bel.size _ rfl fun u5 w5 D=>?_
 have E5_0:=D.q 0
 have E5_1:=D.q 1
 have E5_2:=D.q 2
 have E5_3:=D.q 3
 replace B_z:=D.k B_z
 replace F1:=D.o L1 F1
 replace F11:=D.o L11 F11
 replace F13:=D.o L13 F13
 replace bel:=D.d.base.only0 bel
 clear D
 refine wpT_callO (args:=#[pt b13,pt b13,pt b11]) rfl (ex_call rfl rfl Tryz.func203 (by kernel_rfl) (by kernel_rfl) (by simp only [List.map_toArray,List.map_cons,List.map_nil];show #[(u5 1).v,(u5 2).v,(u5 3).v]=#[pt b13,pt b13,pt b11];rw [E5_1,E5_2,E5_3])) (bAdd (z:=b13) (x:=x.tdiv r) (y:=r) (IntO.blk F13) (IntO.p (VP.any _ F13)) (IntO.p (VP.any _ F11)) (by first|omega|(have sh_:=sqi_h i0 p0;first|omega|exact sh_.1|exact sh_.2.1|exact sh_.2.2.1|exact sh_.2.2.2.1|exact sh_.2.2.2.2.1))) fun w15 fw15 ow15=>?_
 have sw15:Soft w5 b13∨Local w5 b13:=.inl (IntO.soft F13)
 replace B_z:=ow15.keep B_z N_z_b13
 replace F1:=ow15.one sw15 _ N1_13 F1
 replace F11:=ow15.one sw15 _ N11_13 F11
 have F13:=fw15
 have L13:Amb S W b13:=.inr A13
 replace bel:=Only.other ow15 A13 bel.size bel
 refine wpT_callO (args:=#[pt b13,pt b13,.int .u64 1]) rfl (ex_call rfl rfl Tryz.func241 (by kernel_rfl) (by kernel_rfl) (by simp only [List.map_toArray,List.map_cons,List.map_nil];show #[(u5 0).v,.pointer (some ⟨b13,0,none⟩),.int .u64 1]=#[pt b13,pt b13,.int .u64 1];rw [E5_0])) (bRsh (z:=b13) (x:=(x.tdiv r)+r) (n:=(1:Int)) (IntO.blk F13) (IntO.p (VP.any _ F13)) (by first|omega|(have sh_:=sqi_h i0 p0;first|omega|exact sh_.1|exact sh_.2.1|exact sh_.2.2.1|exact sh_.2.2.2.1|exact sh_.2.2.2.2.1)) (by first|omega|(have sh_:=sqi_h i0 p0;first|omega|exact sh_.1|exact sh_.2.1|exact sh_.2.2.1|exact sh_.2.2.2.1|exact sh_.2.2.2.2.1)) (by first|omega|(have sh_:=sqi_h i0 p0;first|omega|exact sh_.1|exact sh_.2.1|exact sh_.2.2.1|exact sh_.2.2.2.1|exact sh_.2.2.2.2.1)) (by first|omega|(have sh_:=sqi_h i0 p0;first|omega|exact sh_.1|exact sh_.2.1|exact sh_.2.2.1|exact sh_.2.2.2.1|exact sh_.2.2.2.2.1))) fun w16 fw16 ow16=>?_
 have sw16:Soft w15 b13∨Local w15 b13:=.inl (IntO.soft F13)
 replace B_z:=ow16.keep B_z N_z_b13
 replace F1:=ow16.one sw16 _ N1_13 F1
 replace F11:=ow16.one sw16 _ N11_13 F11
 have F13:=fw16
 have L13:Amb S W b13:=.inr A13
 replace bel:=Only.other ow16 A13 bel.size bel
 refine wpList_nil ?_
 show _
 refine K14 _ _ ?_
 refine wp_seq_k fun _ K17=>?_
 refine gs 4 (Amb S W) fun _ K18=>?_
 refine .mz rfl 6 E4_4 ?_
 refine .mz rfl 5 (V:=pt b11) rfl ?_
 refine .cK rfl Tryz.func170 (fun H=>⟨_,ar2 (H.g 30 0) (H.g 31 1),bCmp _ _ (IntO.p (VP.any _ (H.was _ [] (VP.at F13 L13)))) (IntO.p (VP.any _ (H.was _ [] (VP.at F11 L11)))) (by first|omega|(have sh_:=sqi_h i0 p0;first|omega|exact sh_.1|exact sh_.2.1|exact sh_.2.2.1|exact sh_.2.2.2.1|exact sh_.2.2.2.2.1))⟩) ?_
 refine .e rfl (V:=.bool (decide (0≤(icmp (((x.tdiv r)+r)/2^(1:Int).toNat) r)))) (fun H=>x_cmp (H.g 32 2) (H.c _)) ?_
 refine .dg (fun u=>pt z::.pointer (some ⟨b1,ob1,none⟩)::U::U::d4::pt b11::u4 4::sq u2 0 3 (U::U::sq u3 0 8 (sq u4 0 4 (sq u5 0 4 (.pointer (some ⟨b13,0,none⟩)::.pointer (some ⟨b13,0,none⟩)::sq u 0 4 (d34::d35::d36::d37::[])))))) K18 bel.size fun u6 w6 D=>?_
 have E6_3:=D.q 3
 replace B_z:=D.k B_z
 replace F1:=D.o L1 F1
 replace F11:=D.o L11 F11
 replace F13:=D.o L13 F13
 replace bel:=D.d.base.only0 bel
 clear D
 rcases Bool.eq_false_or_eq_true (decide (0≤(icmp (((x.tdiv r)+r)/2^(1:Int).toNat) r))) with c19|c19
 ·
  refine wp_cond_true ((E6_3).trans (congrArg Value.bool c19)) ?_
  have dc19:=of_decide_eq_true c19
  refine wp_seq_k fun _ K20=>?_
  refine go2_seqT 2 2 rfl (Amb S W) [] [] (Olds.nil _) (by kernel_rfl) ?_
  refine .mz rfl 0 (V:=pt z) rfl ?_
  refine .mz rfl 5 (V:=pt b11) rfl ?_
  refine .dT (fun u=>pt z::.pointer (some ⟨b1,ob1,none⟩)::U::U::u 3::pt b11::u4 4::sq u2 0 3 (U::U::sq u3 0 8 (sq u4 0 4 (sq u5 0 4 (.pointer (some ⟨b13,0,none⟩)::.pointer (some ⟨b13,0,none⟩)::sq u6 0 4 (sq u 0 3 (d37::[]))))))) bel.size _ rfl fun u7 w7 D=>?_
  have E7_0:=D.q 0
  have E7_1:=D.q 1
  replace B_z:=D.k B_z
  replace F11:=D.o L11 F11
  replace bel:=D.d.base.only0 bel
  clear D
  refine wpT_callO (args:=#[pt z,pt b11]) rfl (ex_call rfl rfl Tryz.func236 (by kernel_rfl) (by kernel_rfl) (by simp only [List.map_toArray,List.map_cons,List.map_nil];show #[(u7 0).v,(u7 1).v]=#[pt z,pt b11];rw [E7_0,E7_1])) (bSet (z:=z) (x:=r) (IntBlk.of B_z) (IntO.p (VP.any _ F11)) (by first|omega|(have sh_:=sqi_h i0 p0;first|omega|exact sh_.1|exact sh_.2.1|exact sh_.2.2.1|exact sh_.2.2.2.1|exact sh_.2.2.2.2.1))) fun w21 fw21 ow21=>?_
  have sw21:Soft w7 z∨Local w7 z:=.inl ⟨_,_,B_z,rfl⟩
  have F_z:=fw21
  replace bel:=bel.trans ow21
  refine wpT_val rfl (ex_assign rfl) ?_
  refine wpList_nil ?_
  show _
  refine K20 _ _ ?_
  refine wp_ret ?_
  refine ret_ok rfl (by exact results_tmp' rfl rfl) ⟨rfl,?_,bel⟩
  exact into_eq (sqi_end i0 dc19) F_z
 ·
  refine wp_cond_false ((E6_3).trans (congrArg Value.bool c19)) ?_
  have dc19:=of_decide_eq_false c19
  refine wp_skip ?_
  refine K17 _ _ ?_
  refine go2_seq 2 rfl (Amb S W) [] [] (Olds.nil _) (by kernel_rfl) ?_
  refine .mz rfl 6 E4_4 ?_
  refine .mv rfl 0 ?_
  refine .dd (fun u=>⟨List.toArray (pt z::.pointer (some ⟨b1,ob1,none⟩)::U::U::d4::u 1::u4 4::sq u2 0 3 (U::U::sq u3 0 8 (sq u4 0 4 (sq u5 0 4 (.pointer (some ⟨b13,0,none⟩)::.pointer (some ⟨b13,0,none⟩)::sq u6 0 4 (d34::d35::d36::u 0::[])))))),[]⟩) bel.size fun u8 w8 D=>?_
  have E8_1:=D.q 1
  replace B_z:=D.k B_z
  replace F1:=D.o L1 F1
  replace F13:=D.o L13 F13
  replace bel:=D.d.base.only0 bel
  clear D
  refine inBlock_normal ?_
  refine hK9 _ _ (Handed.intro ((((x.tdiv r)+r)/2^(1:Int).toNat).toNat) (by rw [hn10];exact (sqi_step i0 dc19).2) (hJ8 _ _ _ ⟨_,_,_,_,_,_,_,_,_,_,_,_,_,_,_,_,_,_,_,_,_,((x.tdiv r)+r)/2^(1:Int).toNat,rfl,rfl,by exact (sqi_step i0 dc19).1,(by rw [E8_1];exact (VP.at F13 L13)),B_z,F1,bel⟩))
theorem bSqrtZ{z:Nat}{v1:Value}(x:Int)(hz:IntBlk W z)(t1:(IntP x).p S v1 W)(p0:x=0):Calls Tryz.prog 202 #[.pointer (some ⟨z,0,none⟩),v1] W (RetOwn z (IntO (isq x.natAbs:Int)) W):=by
 have hS_:∃ S' : Nat→Prop,S' z∧(IntP x).p S' v1 W:=⟨fun k=>S k∨k=z,.inr rfl,(IntP x).mono (fun _ _ h=>.inl h) t1⟩
 clear t1
 obtain⟨S,L_z,t1⟩:=hS_
 replace L_z:Amb S W z:=.inl L_z
 obtain⟨z_0,z_1,B_z⟩:=hz
 obtain⟨b1,ob1,rfl,L1,F1⟩:=IntP.elim t1
 replace L1:Amb S W b1:=.inl L1
 have k0:(x.sign == 0)=true:=by rw [p0];rfl
 have bel:Only z W W:=Only.refl _ _
 go_enter Tryz.func202,Tryz.ntmps202
 refine gs 1 (Amb S W) fun _ K2=>?_
 refine .mc rfl ?_
 refine .dg (fun u=>pt z::.pointer (some ⟨b1,ob1,none⟩)::U::U::u 0::us 33) K2 bel.size fun u1 w1 D=>?_
 have E1_0:=D.q 0
 replace B_z:=D.k B_z
 replace F1:=D.o L1 F1
 replace bel:=D.d.base.only0 bel
 clear D
 refine wp_seq_k fun _ K3=>?_
 refine gs 3 (Amb S W) fun _ K4=>?_
 refine .mz rfl 1 (V:=.pointer (some ⟨b1,ob1,none⟩)) rfl ?_
 refine .cK rfl Tryz.func167 (fun H=>⟨_,ar1 (H.g 7 0),bSign _ (VP.any _ (H.was _ [] (VP.at F1 L1)))⟩) ?_
 refine .e rfl (V:=.bool true) (fun H=>x_cm (H.g 8 1) (H.c _) k0) ?_
 refine .dg (fun u=>pt z::.pointer (some ⟨b1,ob1,none⟩)::U::U::u1 0::U::U::sq u 0 3 (us 28)) K4 bel.size fun u2 w2 D=>?_
 have E2_2:=D.q 2
 replace B_z:=D.k B_z
 replace F1:=D.o L1 F1
 replace bel:=D.d.base.only0 bel
 clear D
 refine wp_cond_true (by exact E2_2) ?_
 refine wp_seq_k fun _ K5=>?_
 refine go2_seqT 1 2 rfl (Amb S W) [] [] (Olds.nil _) (by kernel_rfl) ?_
 refine .mz rfl 0 (V:=pt z) rfl ?_
 refine .dT (fun u=>pt z::.pointer (some ⟨b1,ob1,none⟩)::U::U::u 2::U::U::sq u2 0 3 (u 0::u 1::us 26)) bel.size _ rfl fun u3 w3 D=>?_
 have E3_0:=D.q 0
 replace B_z:=D.k B_z
 replace bel:=D.d.base.only0 bel
 clear D
 refine wpT_callO (args:=#[pt z,.bool false,.slice none 0 0]) rfl (ex_call rfl rfl Tryz.func221 (by kernel_rfl) (by kernel_rfl) (by simp only [List.map_toArray,List.map_cons,List.map_nil];show #[(u3 0).v,.bool false,.slice none 0 0]=#[pt z,.bool false,.slice none 0 0];rw [E3_0])) (bIs (z:=z) (neg:=false) (n:=0) (IntBlk.of B_z) raw_nil ) fun w6 fw6 ow6=>?_
 have sw6:Soft w3 z∨Local w3 z:=.inl ⟨_,_,B_z,rfl⟩
 have F_z:=fw6
 replace bel:=bel.trans ow6
 refine wpT_val rfl (ex_assign rfl) ?_
 refine wpList_nil ?_
 show _
 refine K5 _ _ ?_
 refine wp_ret ?_
 refine ret_ok rfl (by exact results_tmp' rfl rfl) ⟨rfl,?_,bel⟩
 exact into_eq (isq_zero k0) F_z
theorem bSqrt{z:Nat}{v1:Value}(x:Int)(hz:IntBlk W z)(t1:(IntP x).p S v1 W)(p0:hi x≤68719476736)(p1:0≤x):Calls Tryz.prog 202 #[.pointer (some ⟨z,0,none⟩),v1] W (RetOwn z (IntO (isq x.natAbs:Int)) W):=by
 rcases Int.lt_or_eq_of_le p1 with h|h
 ·exact bSqrtP x hz t1 p0 h
 ·exact bSqrtZ x hz t1 h.symm
def rootQ(q:Rat):Rat:=Rat.divInt (isq q.num.natAbs:Int) (isq q.den:Int)
def isSq(q:Rat):Bool:=decide (rootQ q*rootQ q=q)
theorem isq_pos{n:Nat}(h:0<n):0<isq n:=le_isq (by omega)
theorem rootQ_den(q:Rat):(0:Int)<(isq q.den:Int):=by have:=isq_pos q.den_pos;omega
theorem isq_self_le(n:Nat):isq n≤n:=by
 have h:=isq_le n
 rcases Nat.eq_zero_or_pos (isq n) with e|e
 ·omega
 ·exact Nat.le_trans (Nat.le_mul_of_pos_left _ e) h
theorem ht_rootQ(q:Rat):ht (rootQ q)≤ht q+1:=by
 refine ht_dvI (rootQ_den q) ?_
 have h1:=bl_mono (isq_self_le q.num.natAbs)
 have h2:=bl_mono (isq_self_le q.den)
 unfold hi ht
 simp only [Int.natAbs_natCast];omega
theorem sq_parts(y:Rat):(y*y).num=y.num*y.num∧(y*y).den=y.den*y.den:=by
 have hc:(y.num*y.num).natAbs.Coprime (y.den*y.den):=by
  rw [Int.natAbs_mul]
  exact Nat.Coprime.mul_left (Nat.Coprime.mul_right y.reduced y.reduced) (Nat.Coprime.mul_right y.reduced y.reduced)
 have e:y*y=⟨y.num*y.num,y.den*y.den,Nat.mul_ne_zero y.den_nz y.den_nz,hc⟩:=by
  rw [Rat.mul_def,Rat.normalize_eq_mk' _ _ (Nat.mul_ne_zero y.den_nz y.den_nz) hc]
 rw [e];exact⟨rfl,rfl⟩
theorem sq_isq{q y:Rat}(h:y*y=q):isq q.num.natAbs=y.num.natAbs∧isq q.den=y.den:=by
 obtain⟨h1,h2⟩:=sq_parts y
 rw [← h,h1,h2,Int.natAbs_mul]
 exact⟨isq_sq _,isq_sq _⟩
theorem hi_isq(x:Int):hi (isq x.natAbs:Int)≤hi x:=by
 unfold hi;simp only [Int.natAbs_natCast];have:=bl_mono (isq_self_le x.natAbs);omega
theorem sign_nn{q:Rat}(h:0≤q):decide (q.num.sign<0)=false:=by
 have:=Rat.num_nonneg.2 h
 rcases sign3 q.num with⟨c,_⟩|⟨_,c⟩|⟨_,c⟩<;>(first|omega|(rw [c];rfl))
theorem root_b(q:Rat):(icmp ((rootQ q*rootQ q).num*(q.den:Int)) (q.num*((rootQ q*rootQ q).den:Int)) == 0)=isSq q:=icmp_b _ _
end Go.Proofs.YtcboejgklgnifaaGreat
namespace Go.Proofs.YtcboejgklgnifaaGreat
open Go.RowKit Rgn
def rabs(x:Rat):Rat:=if x.num<0 then -x else x
theorem rabs_ge(x:Rat):0≤rabs x∧-x≤rabs x:=by
 unfold rabs
 split
 ·rename_i h
  have:¬ 0≤x:=fun e=>by have:=Rat.num_nonneg.2 e;omega
  grind
 ·rename_i h
  have:0≤x:=Rat.num_nonneg.1 (by omega)
  grind
theorem rabs_parts(x:Rat):decide ((rabs x).num<0)=false∧(rabs x).num.natAbs=x.num.natAbs∧(rabs x).den=x.den:=by
 unfold rabs
 split
 ·rename_i h
  refine⟨decide_eq_false ?_,?_,?_⟩
  ·rw [Rat.neg_num];omega
  ·rw [Rat.neg_num,Int.natAbs_neg]
  ·exact Rat.neg_den x
 ·rename_i h
  exact⟨decide_eq_false h,rfl,rfl⟩
theorem ht_rabs(x:Rat):ht (rabs x)=ht x:=by
 unfold rabs;split
 ·exact ht_neg x
 ·rfl
theorem qAbs{S:Nat→Prop}{W:World}{z:Nat}{v1:Value}(x:Rat)(hz:RatBlk W z)(t1:(RatP x).p S v1 W)(p0:ht x≤68719476736):Calls Tryz.prog 216 #[.pointer (some ⟨z,0,none⟩),v1] W (RetOwn z (RatP (rabs x)) W):=by
 have hS:=qSetF x hz t1 p0
 obtain⟨r1,r2,r3⟩:=rabs_parts x
 have hT:=fun (w1:World) (h:(RatF x).p (·=z) (.pointer (some ⟨z,0,none⟩)) w1)=>RatF.at h
 go_enter Tryz.func216,Tryz.ntmps216
 go_wp2_with fail
 go_call hS as _ w1 ⟨rfl,hf,ho⟩
 obtain⟨u1,u2,hB,hm1,hm2⟩:=hT w1 hf
 have hO:Only z w1 (w1.setCell ⟨z,0,none⟩ (.bool false)):=setCell_only _ ⟨z,0,none⟩ _
 have hB2:=setCell_at (o:=0) (v:=.bool false) hB
 have hg:=hO.growF (.inl ⟨_,_,hB,rfl⟩)
 have g1:=MagP x.num.natAbs |>.grow hg (S:=fun _=>False) hm1
 have g2:=MagP x.den |>.grow hg (S:=fun _=>False) hm2
 have HR:RetOwn z (RatP (rabs x)) W (.returned (.pointer (some ⟨z,0,none⟩))) (w1.setCell ⟨z,0,none⟩ (.bool false)) :=
  ⟨rfl,⟨z,rfl,rfl,.inl ⟨u1,u2,by rw [r1];exact hB2,by rw [r2];exact g1,by rw [r3];exact g2⟩⟩,ho.trans hO⟩
 have HR:=Lib.hid HR
 have hf1:w1.frozen? ⟨z,0,none⟩=false:=frozen_of hB
 have hcc0:w1.cell? ⟨z,0,none⟩=some (.bool (decide (x.num<0))):=cell_of (off:=0) hB rfl
 clear g1 g2 hg hB2 hO hm1 hm2 hB hT hf ho r1 r2 r3 hS t1 hz p0
 go_wp2_with fail
 exact ret_ok rfl (by exact results_tmp' rfl rfl) HR.out
end Go.Proofs.YtcboejgklgnifaaGreat
namespace Go.Proofs.YtcboejgklgnifaaGreat
open Go.RowKit Rgn Eng
theorem sd_t3(c:Ci)(P:Pn):c.side P=-1∨c.side P=0∨c.side P=1:=by
 unfold Ci.side
 split
 ·rcases rat_tri c.a with h|h|h
  ·exact .inl (sg_neg h)
  ·exact .inr (.inl (sg_zero.2 h))
  ·exact .inr (.inr (sg_pos h))
 ·rcases rat_tri (c.val P.z) with h|h|h
  ·exact .inl (sg_neg h)
  ·exact .inr (.inl (sg_zero.2 h))
  ·exact .inr (.inr (sg_pos h))
theorem mb_l20{m:Mb}(h:mbOk (rmb m)=true):ht m.a.re+ht m.a.im+ht m.b.re+ht m.b.im+ht m.c.re+ht m.c.im+ht m.d.re+ht m.d.im≤200000:=by
 have:=mbfits_ht (mbOk_c h).1
 omega
theorem sg_same{x y u v:Rat}(hu:0<u)(hv:0<v)(e:y*u=v*x):y.num.sign=x.num.sign:=by
 have h:=sg_flip (x:=-x) hu hv (show y*u=-(v*-x) by rw [e];grind)
 rw [h];show -(-x.num).sign=x.num.sign;rw [Int.sign_neg,Int.neg_neg]
theorem at_im(c:Ci)(n:Mb)(t:Bool)(v w:Cx):(c.im n t).at v w=c.at ((n.a.mul (cjC t v)).add (n.b.mul (cjC t w))) ((n.c.mul (cjC t v)).add (n.d.mul (cjC t w))):=by
 obtain⟨A,⟨B1,B2⟩,C⟩:=c
 obtain⟨⟨p1,p2⟩,⟨q1,q2⟩,⟨r1,r2⟩,⟨s1,s2⟩,u⟩:=n
 obtain⟨v1,v2⟩:=v
 obtain⟨w1,w2⟩:=w
 unfold Ci.im Ci.mid Ci.at
 cases t<;>simp only [cjC,Cx.mul,Cx.add,Cx.conj,Cx.norm,if_true,Bool.false_eq_true,if_false]<;>grind
theorem at_mul(c:Ci)(k v w:Cx):c.at (k.mul v) (k.mul w)=k.norm*c.at v w:=by
 obtain⟨A,⟨B1,B2⟩,C⟩:=c
 unfold Ci.at
 simp only [Cx.mul,Cx.conj,Cx.norm]
 grind
def Pn.hv(p:Pn):Cx:=if p.inf=true then ⟨1,0⟩ else p.z
def Pn.hw(p:Pn):Cx:=if p.inf=true then ⟨0,0⟩ else ⟨1,0⟩
theorem side_at(c:Ci)(p:Pn):c.side p=(c.at p.hv p.hw).num.sign:=by
 unfold Ci.side Pn.hv Pn.hw
 split
 ·have:c.at ⟨1,0⟩ ⟨0,0⟩=c.a:=by unfold Ci.at;simp only [Cx.mul,Cx.conj,Cx.norm];grind
  rw [this]
 ·have:c.at p.z ⟨1,0⟩=c.val p.z:=by unfold Ci.at Ci.val;simp only [Cx.mul,Cx.conj,Cx.norm];grind
  rw [this]
theorem adj_put(m:Mb)(p:Pn):((m.adj.a.mul (cjC m.t (m.put p).1)).add (m.adj.b.mul (cjC m.t (m.put p).2)))=(cjC m.t m.det).mul p.hv∧((m.adj.c.mul (cjC m.t (m.put p).1)).add (m.adj.d.mul (cjC m.t (m.put p).2)))=(cjC m.t m.det).mul p.hw:=by
 obtain⟨⟨p1,p2⟩,⟨q1,q2⟩,⟨r1,r2⟩,⟨s1,s2⟩,t⟩:=m
 obtain⟨i,⟨z1,z2⟩⟩:=p
 unfold Mb.put Pn.hv Pn.hw
 cases t<;>cases i<;>refine⟨Cx.ext' ?_ ?_,Cx.ext' ?_ ?_⟩<;>simp only [Mb.adj,Mb.cjM,Mb.det,cjC,Cx.mul,Cx.add,Cx.sub,Cx.neg,Cx.conj,if_true,Bool.false_eq_true,if_false]<;>grind
theorem h_ne(p:Pn){k:Cx}(h1:k.mul p.hv=⟨0,0⟩)(h2:k.mul p.hw=⟨0,0⟩):k.zero=true:=by
 rw [zero_iff]
 unfold Pn.hv at h1
 unfold Pn.hw at h2
 split at h1
 ·rwa [mul_one'] at h1
 ·rename_i h;rw [if_neg h,mul_one'] at h2;exact h2
theorem put_send{m:Mb}(h:m.det.zero=false)(p:Pn):∃ k:Cx,k.zero=false∧(m.put p).1=k.mul (m.send p).hv∧(m.put p).2=k.mul (m.send p).hw:=by
 unfold Mb.send
 split
 ·rename_i hz
  have hz:=zero_iff.1 hz
  refine⟨(m.put p).1,?_,(mul_one' _).symm,?_⟩
  ·cases e:(m.put p).1.zero with
   | false=>rfl
   | true =>
    obtain⟨h1,h2⟩:=adj_put m p
    have c0:∀ t,cjC t (⟨0,0⟩:Cx)=⟨0,0⟩:=fun t=>by cases t<;>decide +kernel
    have m0:∀ x y:Cx,(x.mul ⟨0,0⟩).add (y.mul ⟨0,0⟩)=⟨0,0⟩:=fun x y=>Cx.ext' (by show x.re*0-x.im*0+(y.re*0-y.im*0)=0;grind) (by show x.re*0+x.im*0+(y.re*0+y.im*0)=0;grind)
    rw [zero_iff.1 e,hz,c0,m0] at h1 h2
    have:=h_ne p h1.symm h2.symm
    rw [cj_zero,h] at this;cases this
  ·rw [hz];exact Cx.ext' (by show (0:Rat)=(m.put p).1.re*0-(m.put p).1.im*0;grind) (by show (0:Rat)=(m.put p).1.re*0+(m.put p).1.im*0;grind)
 ·rename_i hz
  have hz:(m.put p).2.zero=false:=by simpa using hz
  refine⟨(m.put p).2,hz,?_,(mul_one' _).symm⟩
  show (m.put p).1=(m.put p).2.mul ((m.put p).1.div (m.put p).2)
  rw [div_inv,cmul_comm,mul_assoc', inv_one hz,mul_one']
theorem side_im{m:Mb}(h:m.det.zero=false)(c:Ci)(p:Pn):(c.im m.adj m.t).side (m.send p)=c.side p:=by
 obtain⟨k,hk,e1,e2⟩:=put_send h p
 have h1:=at_im c m.adj m.t (m.put p).1 (m.put p).2
 rw [(adj_put m p).1,(adj_put m p).2,at_mul,e1,e2,at_mul,norm_cj] at h1
 rw [side_at,side_at]
 exact sg_same (norm_pos' hk) (norm_pos' h) (by rw [← h1,Rat.mul_comm])
theorem times_times(c:Ci)(x y:Rat):(c.times x).times y=c.times (x*y):=by
 refine ci_ext ?_ ?_ ?_ ?_<;>simp only [Ci.times,Cx.scale]<;>grind
theorem rim_times(c:Ci)(x:Rat):(c.times x).rim=c.rim.times x:=by
 refine ci_ext ?_ ?_ ?_ ?_<;>simp only [Ci.times,Cx.scale,Cx.conj,Cx.neg]<;>grind
theorem rim_rim(c:Ci):c.rim.rim=c:=by
 refine ci_ext ?_ ?_ ?_ ?_<;>simp only [Cx.conj,Cx.neg]<;>grind
theorem pow_times(c:Ci)(x:Rat):(c.times x).pow=c.pow*(x*x):=by
 simp only [Ci.times,Ci.pow,Cx.scale,Cx.norm];grind
theorem at_times(c:Ci)(x:Rat)(v w:Cx):(c.times x).at v w=c.at v w*x:=by
 unfold Ci.at;simp only [Ci.times,Cx.scale,Cx.mul,Cx.conj,Cx.norm];grind
theorem out_times(c:Ci):c.out=c.times (-1):=by
 unfold Ci.out
 refine ci_ext ?_ ?_ ?_ ?_<;>simp only [Ci.times,Cx.scale,Cx.neg]<;>grind
theorem times_neg(c:Ci)(x:Rat):(c.times x).out=c.times (-x):=by
 rw [out_times,times_times];congr 1;grind
theorem side_times(c:Ci){x:Rat}(h:0<x)(p:Pn):(c.times x).side p=c.side p:=by
 rw [side_at,side_at,at_times]
 exact sg_same (u:=1) (v:=x) (by decide) h (by grind)
theorem side_out(c:Ci)(p:Pn):c.out.side p=-c.side p:=by
 rw [side_at,side_at,out_times,at_times]
 exact sg_flip (u:=1) (v:=1) (by decide) (by decide) (by grind)
theorem rootQ_uni{a q:Rat}(h0:0≤a)(h:a*a=q):rootQ q=a:=by
 obtain⟨h1,h2⟩:=sq_isq h
 unfold rootQ
 rw [h1,h2,Int.natAbs_of_nonneg (Rat.num_nonneg.2 h0)]
 exact Rat.num_divInt_den a
theorem isSq_of{a q:Rat}(h0:0≤a)(h:a*a=q):isSq q=true:=by
 unfold isSq;rw [rootQ_uni h0 h];exact decide_eq_true h
theorem rootQ_nn(q:Rat):0≤rootQ q:=Rat.divInt_nonneg (by omega) (by omega)
theorem isSq_mul{q y:Rat}(h:isSq q=true):isSq (q*(y*y))=true:=by
 have hq:rootQ q*rootQ q=q:=of_decide_eq_true h
 rcases Rat.le_total (a:=0) (b:=y) with g|g
 ·exact isSq_of (a:=rootQ q*y) (Rat.mul_nonneg (rootQ_nn q) g) (by grind)
 ·exact isSq_of (a:=rootQ q*-y) (Rat.mul_nonneg (rootQ_nn q) (by grind)) (by grind)
theorem root_pos{q y:Rat}(h:isSq q=true)(hy:0<y):rootQ (q*(y*y))=rootQ q*y:=by
 have hq:rootQ q*rootQ q=q:=of_decide_eq_true h
 exact rootQ_uni (Rat.mul_nonneg (rootQ_nn q) (by grind)) (by grind)
theorem root_neg{q y:Rat}(h:isSq q=true)(hy:y<0):rootQ (q*(y*y))=rootQ q*-y:=by
 have hq:rootQ q*rootQ q=q:=of_decide_eq_true h
 exact rootQ_uni (Rat.mul_nonneg (rootQ_nn q) (by grind)) (by grind)
theorem rootQ_pos{q:Rat}(h:isSq q=true)(h0:q≠0):0<rootQ q:=by
 have hq:rootQ q*rootQ q=q:=of_decide_eq_true h
 have:=rootQ_nn q
 have h1:rootQ q≠0:=fun e=>h0 (by rw [e] at hq;rw [← hq];exact Rat.zero_mul 0)
 grind
def Mb.dsI(m:Mb)(d:Ci):Ci:=(d.rim.im m.adj m.t).rim.times (rootQ m.det.norm)⁻¹
def Mb.rgm(m:Mb)(d:Ci):Ci:=(m.img d.rim).nrm
def Mb.dsP(m:Mb)(d:Ci):Ci:=(m.rgm d).rim.times (rootQ (m.rgm d).pow)⁻¹
theorem adj_norm(m:Mb):m.adj.det.norm=m.det.norm:=by
 have e:m.adj.det=cjC m.t m.det:=by
  obtain⟨⟨p1,p2⟩,⟨q1,q2⟩,⟨r1,r2⟩,⟨s1,s2⟩,t⟩:=m
  cases t<;>refine Cx.ext' ?_ ?_<;>simp only [Mb.adj,Mb.det,Mb.cjM,cjC,Cx.conj,Cx.neg,Cx.mul,Cx.sub,if_true,Bool.false_eq_true,if_false]<;>grind
 rw [e,norm_cj]
theorem imF_pow{d:Ci}(hd:d.dot d=-1)(m:Mb):(d.rim.im m.adj m.t).pow=m.det.norm:=by
 rw [im_pow,rim_pow hd,adj_norm,Rat.one_mul]
theorem rgm_F{m:Mb}(h:m.det.zero=false){d:Ci}(hd:d.dot d=-1):∃ y:Rat,y≠0∧m.rgm d=(d.rim.im m.adj m.t).times y:=by
 have hp:d.rim.pos=true:=by unfold Ci.pos;rw [rim_pow hd];decide
 have hj:m.adj.piv.inv.zero=false:=inv_zero (det_piv (adj_det h))
 have e1:m.img d.rim=(d.rim.im m.adj m.t).times m.adj.piv.inv.norm:=by
  unfold Mb.img;rw [undo_adj,nrm_by', im_by]
 have hf:=piv_ne (pos_flat (img_pos h hp))
 refine⟨m.adj.piv.inv.norm*(m.img d.rim).piv⁻¹,?_,?_⟩
 ·have h1:m.adj.piv.inv.norm≠0:=zero_norm hj
  intro e
  rcases Rat.mul_eq_zero.1 e with g|g
  ·exact h1 g
  ·have:=Rat.mul_inv_cancel _ hf
   rw [g,Rat.mul_zero] at this
   exact absurd this (by decide)
 ·unfold Mb.rgm
  rw [show (m.img d.rim).nrm=(m.img d.rim).times (m.img d.rim).piv⁻¹ from rfl]
  conv=>lhs;arg 1;rw [e1]
  rw [times_times]
theorem rgm_pow{m:Mb}{d:Ci}{y:Rat}(hd:d.dot d=-1)(e:m.rgm d=(d.rim.im m.adj m.t).times y):(m.rgm d).pow=m.det.norm*(y*y):=by
 rw [e,pow_times,imF_pow hd]
theorem det_nn{m:Mb}(h:m.det.zero=false):0<m.det.norm:=norm_pos' h
theorem rgm_nn{m:Mb}(h:m.det.zero=false){d:Ci}(hd:d.dot d=-1):0≤(m.rgm d).pow:=by
 obtain⟨y,hy,e⟩:=rgm_F h hd
 rw [rgm_pow hd e]
 exact Rat.mul_nonneg (by have:=det_nn h;grind) (sq_nn y)
theorem rgm_sq{m:Mb}(h:m.det.zero=false){d:Ci}(hd:d.dot d=-1)(hs:isSq m.det.norm=true):isSq (m.rgm d).pow=true:=by
 obtain⟨y,hy,e⟩:=rgm_F h hd
 rw [rgm_pow hd e];exact isSq_mul hs
theorem rgm_ne{m:Mb}(h:m.det.zero=false){d:Ci}(hd:d.dot d=-1)(hs:isSq m.det.norm=true):rootQ (m.rgm d).pow≠0:=by
 have h1:=rootQ_pos (rgm_sq h hd hs) (fun e0=>by
  obtain⟨y,hy,e⟩:=rgm_F h hd
  rw [rgm_pow hd e] at e0
  have h2:=det_nn h
  rcases Rat.mul_eq_zero.1 e0 with g|g
  ·grind
  ·rcases Rat.mul_eq_zero.1 g with g|g<;>exact hy g)
 grind
theorem dsI_rim(m:Mb)(d:Ci):(m.dsI d).rim=(d.rim.im m.adj m.t).times (rootQ m.det.norm)⁻¹:=by
 unfold Mb.dsI;rw [rim_times,rim_rim]
theorem dsI_side{m:Mb}(h:m.det.zero=false)(hs:isSq m.det.norm=true)(d:Ci)(p:Pn):(m.dsI d).rim.side (m.send p)=d.rim.side p:=by
 have h1:=rootQ_pos hs (by have:=det_nn h;grind)
 rw [dsI_rim,side_times _ (Rat.inv_pos.2 h1),side_im h]
theorem dsP_is{m:Mb}(h:m.det.zero=false){d:Ci}(hd:d.dot d=-1)(hs:isSq m.det.norm=true):m.dsP d=m.dsI d∨m.dsP d=(m.dsI d).out:=by
 obtain⟨y,hy,e⟩:=rgm_F h hd
 have hr:=rootQ_pos hs (by have:=det_nn h;grind)
 unfold Mb.dsP Mb.dsI
 rw [rgm_pow hd e,e,rim_times,times_times]
 rcases rat_tri y with g|g|g
 ·right
  rw [root_neg hs g,times_neg];congr 1
  rw [Rat.inv_mul_rev]
  have h1:y*(-y)⁻¹=-1:=by
   have:=Rat.mul_inv_cancel (-y) (by grind)
   grind
  grind
 ·exact absurd g hy
 ·left
  rw [root_pos hs g];congr 1
  rw [Rat.inv_mul_rev]
  have h1:=Rat.mul_inv_cancel y hy
  grind
theorem out_rim(c:Ci):c.out.rim=c.rim.out:=by
 rw [out_times,out_times,rim_times]
def Ci.ext(d:Ci):Pn :=
 if decide (0<d.rim.side ⟨false,Cx.ofInt 0 0⟩)=true then ⟨false,Cx.ofInt 0 0⟩
 else if decide (0<d.rim.side ⟨true,⟨0,0⟩⟩)=true then ⟨true,⟨0,0⟩⟩
 else if decide (d.a.num.sign<0)=true then ⟨false,d.b.scale d.a⁻¹⟩
 else ⟨false,((Cx.mk d.b.re 0).add ((Cx.mk d.b.im 0).mul (Cx.ofInt (0:Int) (1:Int)))).scale (-(rabs d.c+Rat.divInt (1:Int) (1:Int)))⟩
theorem ext_side{d:Ci}(hd:d.dot d=-1):d.rim.side d.ext=1:=by
 have hn:=(dk_dot d).2 hd
 unfold Ci.ext
 split
 ·rename_i h;have:=of_decide_eq_true h;rcases sd_t3 d.rim ⟨false,Cx.ofInt 0 0⟩ with g|g|g<;>omega
 ·rename_i h0
  split
  ·rename_i h;have:=of_decide_eq_true h;rcases sd_t3 d.rim ⟨true,⟨0,0⟩⟩ with g|g|g<;>omega
  ·rename_i h1
   have h1:¬ 0<d.rim.side ⟨true,⟨0,0⟩⟩:=fun e=>h1 (decide_eq_true e)
   have h0:¬ 0<d.rim.side ⟨false,Cx.ofInt 0 0⟩:=fun e=>h0 (decide_eq_true e)
   have e1:d.rim.side ⟨true,⟨0,0⟩⟩=d.a.num.sign:=rfl
   have e0:d.rim.side ⟨false,Cx.ofInt 0 0⟩=d.c.num.sign:=by
    have:d.rim.val (Cx.ofInt 0 0)=d.c:=by
     have z:Cx.ofInt 0 0=⟨0,0⟩:=by decide +kernel
     rw [z];unfold Ci.val;simp only [Cx.mul,Cx.norm];grind
    show (d.rim.val (Cx.ofInt 0 0)).num.sign=_
    rw [this]
   rw [e1] at h1
   rw [e0] at h0
   split
   ·rename_i h2
    have h2:=of_decide_eq_true h2
    have ha:d.a<0:=by
     rcases rat_tri d.a with g|g|g
     ·exact g
     ·rw [g] at h2;exact absurd h2 (by decide)
     ·rw [sg_pos g] at h2;exact absurd h2 (by decide)
    have hi:=Rat.mul_inv_cancel d.a (by grind)
    have:d.rim.val (d.b.scale d.a⁻¹)*-d.a=1:=by
     obtain⟨a,⟨b1,b2⟩,c⟩:=d
     unfold Ci.val
     simp only [Ci.rim,Cx.conj,Cx.neg,Cx.mul,Cx.scale,Cx.norm] at hn hi ⊢
     grind
    show (d.rim.val (d.b.scale d.a⁻¹)).num.sign=1
    refine sg_pos ?_
    rcases rat_tri (d.rim.val (d.b.scale d.a⁻¹)) with g|g|g
    ·have:=Rat.mul_pos (show 0 < -(d.rim.val (d.b.scale d.a⁻¹)) by grind) (show 0 < -d.a by grind);grind
    ·grind
    ·exact g
   ·rename_i h2
    have h2:¬ d.a.num.sign<0:=fun e=>h2 (decide_eq_true e)
    have ha:d.a=0:=by
     rcases rat_tri d.a with g|g|g
     ·rw [sg_neg g] at h2;exact absurd h2 (by decide)
     ·exact g
     ·rw [sg_pos g] at h1;exact absurd h1 (by decide)
    have hc:=rabs_ge d.c
    have hd1:Rat.divInt (1:Int) (1:Int)=1:=by decide
    rw [hd1]
    show (d.rim.val _).num.sign=1
    refine sg_pos ?_
    have:d.rim.val (((Cx.mk d.b.re 0).add ((Cx.mk d.b.im 0).mul (Cx.ofInt (0:Int) (1:Int)))).scale (-(rabs d.c+1)))=2*(rabs d.c+1)+d.c:=by
     obtain⟨a,⟨b1,b2⟩,c⟩:=d
     rw [of2]
     unfold Ci.val
     simp only [Ci.rim,Cx.conj,Cx.neg,Cx.mul,Cx.add,Cx.scale,Cx.norm] at hn ha ⊢
     subst ha
     grind
    rw [this];grind
theorem im_T{m:Mb}(h:m.det.zero=false){d:Ci}(hd:d.dot d=-1)(hs:isSq m.det.norm=true)(c:decide ((m.dsP d).rim.side (m.send d.ext)<0)=true):(m.dsP d).out=m.dsI d:=by
 have c:=of_decide_eq_true c
 rcases dsP_is h hd hs with e|e
 ·rw [e,dsI_side h hs,ext_side hd] at c;exact absurd c (by decide)
 ·rw [e,out_out]
theorem im_F{m:Mb}(h:m.det.zero=false){d:Ci}(hd:d.dot d=-1)(hs:isSq m.det.norm=true)(c:decide ((m.dsP d).rim.side (m.send d.ext)<0)=false):m.dsP d=m.dsI d:=by
 have c:=of_decide_eq_false c
 rcases dsP_is h hd hs with e|e
 ·exact e
 ·rw [e,out_rim,side_out,dsI_side h hs,ext_side hd] at c;exact absurd (by decide) c
section
variable {d:Ci} {m:Mb} {b:Bool}
theorem ext_z(h:decide (0<d.rim.side ⟨false,Cx.ofInt 0 0⟩)=b):decide (0<d.rim.side ⟨false,Cx.ofInt (-0) 0⟩)=b:=h
theorem ext_y(h:decide (0<d.rim.side ⟨false,Cx.ofInt 0 0⟩)=b):decide (0<d.rim.side ⟨false,Cx.ofInt 0 (-0)⟩)=b:=h
theorem ext_k(h1:decide (0<d.rim.side ⟨true,⟨0,0⟩⟩)=false)(h2:decide (d.a.num.sign<0)=false):(d.a.num.sign == 0)=true:=by
 have h1:¬ 0<d.a.num.sign:=of_decide_eq_false h1
 have h2:=of_decide_eq_false h2
 exact beq_iff_eq.2 (by omega)
theorem ext_nz(h:decide (d.a.num.sign<0)=true):d.a≠0:=fun e=>by rw [e] at h;exact absurd h (by decide)
theorem ext_0(h:decide (0<d.rim.side ⟨false,Cx.ofInt 0 0⟩)=true):Pn.mk false (Cx.ofInt 0 0)=d.ext:=by unfold Ci.ext;rw [if_pos h]
theorem ext_1(h:decide (0<d.rim.side ⟨false,Cx.ofInt 0 0⟩)=false)(h1:decide (0<d.rim.side ⟨true,⟨0,0⟩⟩)=true):Pn.mk true ⟨0,0⟩=d.ext:=by
 unfold Ci.ext;rw [if_neg (by rw [h];decide),if_pos h1]
theorem ext_2(h:decide (0<d.rim.side ⟨false,Cx.ofInt 0 0⟩)=false)(h1:decide (0<d.rim.side ⟨true,⟨0,0⟩⟩)=false)(h2:decide (d.a.num.sign<0)=true):Pn.mk false (d.b.scale d.a⁻¹)=d.ext:=by
 unfold Ci.ext;rw [if_neg (by rw [h];decide),if_neg (by rw [h1];decide),if_pos h2]
theorem ext_3(h:decide (0<d.rim.side ⟨false,Cx.ofInt 0 0⟩)=false)(h1:decide (0<d.rim.side ⟨true,⟨0,0⟩⟩)=false)(h2:decide (d.a.num.sign<0)=false):Pn.mk false (((Cx.mk d.b.re 0).add ((Cx.mk d.b.im 0).mul (Cx.ofInt 0 1))).scale (-(rabs d.c+Rat.divInt 1 1)))=d.ext:=by
 unfold Ci.ext;rw [if_neg (by rw [h];decide),if_neg (by rw [h1];decide),if_neg (by rw [h2];decide)]
theorem im_vT(h:m.det.zero=false)(hd:d.dot d=-1)(hs:isSq m.det.norm=true)(c:decide ((m.dsP d).rim.side (m.send d.ext)<0)=true):Value.tuple #[rciV (cicut (m.dsP d).out),.int .i64 (cierr (m.dsP d).out)]=.tuple #[rciV (cicut (m.dsI d)),.int .i64 (cierr (m.dsI d))]:=by rw [im_T h hd hs c]
theorem im_vF(h:m.det.zero=false)(hd:d.dot d=-1)(hs:isSq m.det.norm=true)(c:decide ((m.dsP d).rim.side (m.send d.ext)<0)=false):Value.tuple #[rciV (cicut (m.dsP d)),.int .i64 (cierr (m.dsP d))]=.tuple #[rciV (cicut (m.dsI d)),.int .i64 (cierr (m.dsI d))]:=by rw [im_F h hd hs c]
theorem det_hbL{n:Nat}(h:ht m.a.re+ht m.a.im+ht m.b.re+ht m.b.im+ht m.c.re+ht m.c.im+ht m.d.re+ht m.d.im≤n):HB m.det n:=by
 have h1:=det_ht m
 unfold Mb.hh Cx.hh at h1
 unfold HB;omega
theorem mb_ub(h:ht m.a.re+ht m.a.im+ht m.b.re+ht m.b.im+ht m.c.re+ht m.c.im+ht m.d.re+ht m.d.im≤4000):m.ub 2400000:=undo_up (undo_le (Nat.le_trans h (by decide)))
theorem pow_hb{c:Ci}(h1:ht c.a≤1400000)(h2:HB c.b 1400000)(h3:ht c.c≤1400000):ht c.pow≤8400000:=hb_sub (HB.norm h2 5600000) (hb_mul h1 h3 2800000) 8400000
theorem hb_root{q:Rat}{n:Nat}(h:ht q≤n):ht (rootQ q)≤n+1:=Nat.le_trans (ht_rootQ q) (by omega)
theorem pv_le{c:Ci}{n:Nat}(h:ht c.a≤n∧HB c.b n∧ht c.c≤n):ht c.piv≤n:=by
 unfold Ci.piv
 split
 ·split
  ·exact h.2.1.2
  ·exact h.2.1.1
 ·exact h.1
theorem rgm_hb(h:ht m.a.re+ht m.a.im+ht m.b.re+ht m.b.im+ht m.c.re+ht m.c.im+ht m.d.re+ht m.d.im≤4000)(h': ht d.a+ht d.b.re+ht d.b.im+ht d.c≤2000):ht (m.rgm d).a≤1400000∧HB (m.rgm d).b 1400000∧ht (m.rgm d).c≤1400000:=by
 obtain⟨e1,e2,e3⟩:=hb_ci h'
 have e2:HB d.rim.b 2000:=e2.conj.neg
 have u:m.ub 24000:=undo_le h
 obtain⟨u1,u2,u3,u4⟩:=u
 have a1:=at_hb (c:=d.rim) e1 e2 e3 u1 u3 500000
 have a2:=at_hb (c:=d.rim) e1 e2 e3 u2 u4 500000
 have k0:=HB.conj u2
 have k1:=HB.mul u1 k0 96000
 have k2:=HB.mul (HB.two (z:=Cx.mk d.rim.a 0) e1 (show ht (0:Rat)≤2000 by decide) 2000) k1 196000
 have k3:=HB.mul e2 u1 52000
 have k4:=HB.conj u4
 have k5:=HB.mul k3 k4 152000
 have k6:=HB.add k2 k5 348000
 have k7:=HB.mul e2 u2 52000
 have k8:=HB.conj k7
 have k9:=HB.mul k8 u3 152000
 have k10:=HB.add k6 k9 500000
 have k11:=HB.mul u3 k4 96000
 have k12:=HB.mul (HB.two (z:=Cx.mk d.rim.c 0) e3 (show ht (0:Rat)≤2000 by decide) 2000) k11 196000
 have k13:=(HB.add k10 k12 696000).cj m.t
 have hi:ht (m.img d.rim).a≤696000∧HB (m.img d.rim).b 696000∧ht (m.img d.rim).c≤696000:=⟨Nat.le_trans a1 (by decide),k13,Nat.le_trans a2 (by decide)⟩
 have hp:=hb_inv (pv_le hi)
 exact⟨hb_mul hi.1 hp 1400000,hi.2.1.scale hp 1400000,hb_mul hi.2.2 hp 1400000⟩
theorem dsP_hb(h:ht m.a.re+ht m.a.im+ht m.b.re+ht m.b.im+ht m.c.re+ht m.c.im+ht m.d.re+ht m.d.im≤4000)(h': ht d.a+ht d.b.re+ht d.b.im+ht d.c≤2000):ht (m.dsP d).a≤9900001∧HB (m.dsP d).b 9900001∧ht (m.dsP d).c≤9900001:=by
 obtain⟨a1,a2,a3⟩:=rgm_hb h h'
 have hp:=hb_inv (hb_root (pow_hb a1 a2 a3))
 exact⟨hb_mul a1 hp 9900001,(a2.conj.neg).scale hp 9900001,hb_mul a3 hp 9900001⟩
theorem ext_hb(h': ht d.a+ht d.b.re+ht d.b.im+ht d.c≤2000):HB d.ext.z 10010:=by
 obtain⟨e1,e2,e3⟩:=hb_ci h'
 unfold Ci.ext
 split
 ·exact⟨by decide,by decide⟩
 ·split
  ·exact⟨by decide,by decide⟩
  ·split
   ·exact e2.scale (hb_inv e1) 10010
   ·have k1:=HB.mul (HB.two (z:=Cx.mk d.b.im 0) e2.2 (show ht (0:Rat)≤2000 by decide) 2000) (⟨by decide,by decide⟩:HB (Cx.ofInt (0:Int) (1:Int)) 3) 4006
    have k2:=HB.add (HB.two (z:=Cx.mk d.b.re 0) e2.1 (show ht (0:Rat)≤2000 by decide) 2000) k1 6006
    have k3:ht (rabs d.c+Rat.divInt (1:Int) (1:Int))≤2004:=hb_add (Nat.le_trans (Nat.le_of_eq (ht_rabs d.c)) e3) (by decide:ht (Rat.divInt (1:Int) (1:Int))≤4) 2004
    exact k2.scale (hb_neg k3) 10010
theorem send_hb(h:ht m.a.re+ht m.a.im+ht m.b.re+ht m.b.im+ht m.c.re+ht m.c.im+ht m.d.re+ht m.d.im≤4000)(h': ht d.a+ht d.b.re+ht d.b.im+ht d.c≤2000):HB (m.send d.ext).z 400000:=by
 have e:=ext_hb h'
 obtain⟨a1,a2,a3,a4⟩:=hb_mb h
 have k0:HB (cjC m.t d.ext.z) 10010:=e.cj m.t
 have k1:=HB.add (HB.mul a1 k0 28020) a2 32020
 have k2:=HB.add (HB.mul a3 k0 28020) a4 32020
 unfold Mb.send
 split
 ·exact⟨by decide,by decide⟩
 ·unfold Mb.put
  split
  ·exact HB.div a1 a3 400000
  ·exact HB.div k1 k2 400000
end
end Go.Proofs.YtcboejgklgnifaaGreat
namespace Go.Proofs.YtcboejgklgnifaaGreat
open Go.RowKit Rgn Eng
variable {S:Nat→Prop} {W:World}
theorem ouY(a:Ci)(p0:dsOk (rci a)=true):Calls Tryz.prog 60 #[ciV a] W (RetV (.tuple #[ciV a.out,.int .i64 0]) W):=by
 have f0:=cifits_ht (dsOk_c p0).1
 have h2:=out_hs a
 refine Run.goP (S:=Z0) (Pack.nil.k (ciV a) (ciC a).toList (.s (.agg (ks 0 16)))) Tryz.func60 rfl ?_
 refine Run.cR (spRingC true) (fun _ _ _ H=>ePlateO a p0) ?_
 refine Run.cR spRing (fun _ _ _ H=>dsOut a (RingP.mk (H.f 0) (H.f 1) (H.f 2) (H.f 3)) (by omega)) ?_
 refine Run.cV ((rciC (cicut a.out)).toList++[.int .i64 (cierr a.out)]) (.tup [.agg (ks 0 16),.o (.k 16)]) (fun _ _ _ H=>dsTold a.out (RingP.mk (H.f 4) (H.f 5) (H.f 6) (H.f 7)) (by omega)) ?_
 exact Run.rV ((ou_eq p0))
theorem siY(a:Ci)(P:Pn)(p0:dsOk (rci a)=true)(p1:PnF P):Calls Tryz.prog 64 #[ciV a,rpnV (pnR P)] W (RetV (.tuple #[.int .i64 (a.rim.side P),.int .i64 0]) W):=by
 have f0:=cifits_ht (dsOk_c p0).1
 have h2:=rim_hs a
 have f3:=p1.ht
 refine Run.goP (S:=Z0) ((Pack.nil.k (ciV a) (ciC a).toList (.s (.agg (ks 0 16)))).k (rpnV (pnR P)) (rpnC (pnR P)).toList (.s (.agg (ks 0 9)))) Tryz.func64 rfl ?_
 refine Run.cR (spRingC true) (fun _ _ _ H=>ePlateO a p0) ?_
 refine Run.cR (spPlaceC true) (fun _ _ _ H=>eSpotP P p1) ?_
 refine Run.dr ?_
 refine RunD.cR spRing (fun _ _ _ H=>dsRim a (RingP.mk (H.f 0) (H.f 1) (H.f 2) (H.f 3)) (by omega)) ?_
 refine RunD.cV [.int .i64 (a.rim.side P)] kb (fun _ _ _ H=>rgSide a.rim P (RingP.mk (H.f 6) (H.f 7) (H.f 8) (H.f 9)) (PlaceP.mk (H.f 4) (H.f 5)) (by omega)) ?_
 refine RunD.en ?_
 exact Run.rV rfl
theorem siM(a:Ci)(p:RPn)(p0:dsOk (rci a)=true)(p1:pnOk p=false):Calls Tryz.prog 64 #[ciV a,rpnV p] W (RetV (.tuple #[.int .i64 0,.int .i64 2]) W):=by
 refine Run.goP (S:=Z0) ((Pack.nil.k (ciV a) (ciC a).toList (.s (.agg (ks 0 16)))).k (rpnV p) (rpnC p).toList (.s (.agg (ks 0 9)))) Tryz.func64 rfl ?_
 refine Run.cR (spRingC true) (fun _ _ _ H=>ePlateO a p0) ?_
 refine Run.cR spPlaceJK (fun _ _ _ H=>eSpotJ p) ?_
 refine Run.kn p1 ?_
 exact Run.rV rfl
theorem toY{b0:Nat}(T0:TypeId)(a b:Ci)(B0:W.heap[b0]? = some (.cells (⟨(ciC a).toList++((ciC b).toList)⟩) T0 (0,0)))(p0:dsOk (rci a)=true)(p1:dsOk (rci b)=true):Calls Tryz.prog 23 #[.slice (some ⟨b0,0,none⟩) 2 2] W (RetV (.tuple #[.bool (a.touch b),.int .i64 0]) W):=by
 have f0:=cifits_ht (dsOk_c p0).1
 have f1:=cifits_ht (dsOk_c p1).1
 refine Run.goP (S:=Z0) (Pack.nil.b B0 (some 2) 32) Tryz.func23 rfl ?_
 refine Run.cB (n:=2) (T:=133) (φs:=ringF [a,b]) (fun _ _ _ H=>pl2Y T0 a b (H.b 0) p0 p1) (fun cp1=>?_)
 refine Run.cV [.bool ([b.touch a].all id)] kb (fun _ _ _ H=>tch2 cp1 a b (H.br 1) (RingP.mk (H.f 0) (H.f 1) (H.f 2) (H.f 3)) (RingP.mk (H.f 4) (H.f 5) (H.f 6) (H.f 7)) (by omega)) ?_
 exact Run.rV ((to_eq a b))
theorem apY(a b:Ci)(p0:dsOk (rci a)=true)(p1:dsOk (rci b)=true):Calls Tryz.prog 162 #[ciV a,ciV b] W (RetV (.tuple #[.bool (a.apt b),.int .i64 0]) W):=by
 have f0:=cifits_ht (dsOk_c p0).1
 have f1:=cifits_ht (dsOk_c p1).1
 have h1:=dot_ht a b
 have h2:=plus_ht a b
 have z2:ht (Rat.divInt (1:Int) (1:Int))=2:=by decide
 refine Run.goP (S:=Z0) ((Pack.nil.k (ciV a) (ciC a).toList (.s (.agg (ks 0 16)))).k (ciV b) (ciC b).toList (.s (.agg (ks 0 16)))) Tryz.func162 rfl ?_
 refine Run.cB (n:=2) (T:=133) (φs:=ringF [a,b]) (fun _ _ _ H=>pl2Y 29 a b (H.b 2) p0 p1) (fun cp1=>?_)
 refine Run.dr ?_
 refine RunD.cR spRing (fun _ _ _ H=>dsPlus a b (RingP.mk (H.f 0) (H.f 1) (H.f 2) (H.f 3)) (RingP.mk (H.f 4) (H.f 5) (H.f 6) (H.f 7)) (by omega)) ?_
 refine RunD.en ?_
 refine (Bool.eq_false_or_eq_true (decide (0≤(icmp ((a.dot b).num*((Rat.divInt 1 1).den:Int)) ((Rat.divInt 1 1).num*((a.dot b).den:Int)))))).elim (fun c1=>?_) (fun c1=>?_)
 · refine (Bool.eq_false_or_eq_true (decide (0≤(((a.plus b).a).num.sign)))).elim (fun c2=>?_) (fun c2=>?_)
   · refine Run.dr ?_
     refine RunD.cR spRat (fun _ _ _ H=>dsBy a b (RingP.mk (H.f 0) (H.f 1) (H.f 2) (H.f 3)) (RingP.mk (H.f 4) (H.f 5) (H.f 6) (H.f 7)) (by omega)) ?_
     refine RunD.cR spRat (fun _ _ _ H=>qNewRat 1 1 (by decide) (by decide) (by decide) (by decide) (by decide)) ?_
     refine RunD.cV [.int .i64 (icmp ((a.dot b).num*((Rat.divInt 1 1).den:Int)) ((Rat.divInt 1 1).num*((a.dot b).den:Int)))] kb (fun _ _ _ H=>qCmp (a.dot b) (Rat.divInt 1 1) (H.f 12) (H.f 13) (by omega)) ?_
     refine RunD.bi [] (cb true) (fun _ _ _ o1 o2 _ ho hx hy=>ex_icmp .geq 3 (icmp ((a.dot b).num*((Rat.divInt 1 1).den:Int)) ((Rat.divInt 1 1).num*((a.dot b).den:Int))) 0 (kk:=.i64) rfl ho hx hy) ?_ (hV:=fun _ _=>congrArg Value.bool c1)
     refine RunD.cV [.int .i64 (((a.plus b).a).num.sign)] kb (fun _ _ _ H=>qSign ((a.plus b).a) (H.f 8)) ?_
     refine RunD.bi [] (cb true) (fun _ _ _ o1 o2 _ ho hx hy=>ex_icmp .geq 3 (((a.plus b).a).num.sign) 0 (kk:=.i64) rfl ho hx hy) ?_ (hV:=fun _ _=>congrArg Value.bool c2)
     refine RunD.cV [.int .i64 (((a.plus b).c).num.sign)] kb (fun _ _ _ H=>qSign ((a.plus b).c) (H.f 11)) ?_
     refine RunD.bi [.bool (decide (0≤(((a.plus b).c).num.sign)))] kb (fun _ _ _ o1 o2 _ ho hx hy=>ex_icmp .geq 3 (((a.plus b).c).num.sign) 0 (kk:=.i64) rfl ho hx hy) ?_
     refine RunD.en ?_
     exact Run.rV ((apV (ap_2 c1 c2)))
   · refine Run.dr ?_
     refine RunD.cR spRat (fun _ _ _ H=>dsBy a b (RingP.mk (H.f 0) (H.f 1) (H.f 2) (H.f 3)) (RingP.mk (H.f 4) (H.f 5) (H.f 6) (H.f 7)) (by omega)) ?_
     refine RunD.cR spRat (fun _ _ _ H=>qNewRat 1 1 (by decide) (by decide) (by decide) (by decide) (by decide)) ?_
     refine RunD.cV [.int .i64 (icmp ((a.dot b).num*((Rat.divInt 1 1).den:Int)) ((Rat.divInt 1 1).num*((a.dot b).den:Int)))] kb (fun _ _ _ H=>qCmp (a.dot b) (Rat.divInt 1 1) (H.f 12) (H.f 13) (by omega)) ?_
     refine RunD.bi [] (cb true) (fun _ _ _ o1 o2 _ ho hx hy=>ex_icmp .geq 3 (icmp ((a.dot b).num*((Rat.divInt 1 1).den:Int)) ((Rat.divInt 1 1).num*((a.dot b).den:Int))) 0 (kk:=.i64) rfl ho hx hy) ?_ (hV:=fun _ _=>congrArg Value.bool c1)
     refine RunD.cV [.int .i64 (((a.plus b).a).num.sign)] kb (fun _ _ _ H=>qSign ((a.plus b).a) (H.f 8)) ?_
     refine RunD.bi [] (cb false) (fun _ _ _ o1 o2 _ ho hx hy=>ex_icmp .geq 3 (((a.plus b).a).num.sign) 0 (kk:=.i64) rfl ho hx hy) ?_ (hV:=fun _ _=>congrArg Value.bool c2)
     refine RunD.en ?_
     exact Run.rV ((apV (ap_1 c1 c2)))
 · refine Run.dr ?_
   refine RunD.cR spRat (fun _ _ _ H=>dsBy a b (RingP.mk (H.f 0) (H.f 1) (H.f 2) (H.f 3)) (RingP.mk (H.f 4) (H.f 5) (H.f 6) (H.f 7)) (by omega)) ?_
   refine RunD.cR spRat (fun _ _ _ H=>qNewRat 1 1 (by decide) (by decide) (by decide) (by decide) (by decide)) ?_
   refine RunD.cV [.int .i64 (icmp ((a.dot b).num*((Rat.divInt 1 1).den:Int)) ((Rat.divInt 1 1).num*((a.dot b).den:Int)))] kb (fun _ _ _ H=>qCmp (a.dot b) (Rat.divInt 1 1) (H.f 12) (H.f 13) (by omega)) ?_
   refine RunD.bi [] (cb false) (fun _ _ _ o1 o2 _ ho hx hy=>ex_icmp .geq 3 (icmp ((a.dot b).num*((Rat.divInt 1 1).den:Int)) ((Rat.divInt 1 1).num*((a.dot b).den:Int))) 0 (kk:=.i64) rfl ho hx hy) ?_ (hV:=fun _ _=>congrArg Value.bool c1)
   refine RunD.en ?_
   exact Run.rV ((apV (ap_0 c1)))
theorem kiF(a b:Ci)(p0:dsOk (rci a)=true)(p1:dsOk (rci b)=true)(p2:a.touch b=false):Calls Tryz.prog 63 #[ciV a,ciV b] W (RetV (.tuple #[rpnV rzPn,.int .i64 300]) W):=by
 have f0:=cifits_ht (dsOk_c p0).1
 have f1:=cifits_ht (dsOk_c p1).1
 refine Run.goP (S:=Z0) ((Pack.nil.k (ciV a) (ciC a).toList (.s (.agg (ks 0 16)))).k (ciV b) (ciC b).toList (.s (.agg (ks 0 16)))) Tryz.func63 rfl ?_
 refine Run.cB (n:=2) (T:=133) (φs:=ringF [a,b]) (fun _ _ _ H=>pl2Y 29 a b (H.b 3) p0 p1) (fun cp1=>?_)
 refine Run.cV [.bool ([b.touch a].all id)] kb (fun _ _ _ H=>tch2 cp1 a b (H.br 4) (RingP.mk (H.f 0) (H.f 1) (H.f 2) (H.f 3)) (RingP.mk (H.f 4) (H.f 5) (H.f 6) (H.f 7)) (by omega)) ?_
 refine Run.kn (tch_f p2) ?_
 exact Run.rV rfl
theorem kiT(a b:Ci)(p0:dsOk (rci a)=true)(p1:dsOk (rci b)=true)(p2:a.touch b=true):Calls Tryz.prog 63 #[ciV a,ciV b] W (RetV (.tuple #[rpnV (pncut (a.kis b)),.int .i64 (pnerr (a.kis b))]) W):=by
 have f0:=cifits_ht (dsOk_c p0).1
 have f1:=cifits_ht (dsOk_c p1).1
 have h2:=plus_ht a b
 have h3:=ht_inv (a.plus b).a
 have h4:=hc_scale (a.plus b).b (a.plus b).a⁻¹
 have k0:=hc_scale ((a.plus b).b) (((a.plus b).a)⁻¹)
 refine Run.goP (S:=Z0) ((Pack.nil.k (ciV a) (ciC a).toList (.s (.agg (ks 0 16)))).k (ciV b) (ciC b).toList (.s (.agg (ks 0 16)))) Tryz.func63 rfl ?_
 refine Run.cB (n:=2) (T:=133) (φs:=ringF [a,b]) (fun _ _ _ H=>pl2Y 29 a b (H.b 3) p0 p1) (fun cp1=>?_)
 refine Run.cV [.bool ([b.touch a].all id)] kb (fun _ _ _ H=>tch2 cp1 a b (H.br 4) (RingP.mk (H.f 0) (H.f 1) (H.f 2) (H.f 3)) (RingP.mk (H.f 4) (H.f 5) (H.f 6) (H.f 7)) (by first|omega|(dsimp only at *;omega)|exact sgn_no _)) ?_
 refine Run.kn (tch_t p2) ?_
 refine Run.dr ?_
 refine RunD.cR spRing (fun _ _ _ H=>dsPlus a b (RingP.mk (H.f 0) (H.f 1) (H.f 2) (H.f 3)) (RingP.mk (H.f 4) (H.f 5) (H.f 6) (H.f 7)) (by first|omega|(dsimp only at *;omega)|exact sgn_no _)) ?_
 refine RunD.en ?_
 refine Run.cV [.int .i64 (((a.plus b).a).num.sign)] kb (fun _ _ _ H=>qSign ((a.plus b).a) (H.f 8)) ?_
 refine Run.ic (((a.plus b).a).num.sign) 0 ((((a.plus b).a).num.sign) == 0) ?_
 refine (Bool.eq_false_or_eq_true ((((a.plus b).a).num.sign) == 0)).elim (fun c1=>?_) (fun c1=>?_)
 · refine Run.kn c1 ?_
   exact Run.rV (ki_1 c1)
 · refine Run.kn c1 ?_
   refine Run.dr ?_
   refine RunD.cO 6 softRat (fun _ _ _ H=>qInv ((a.plus b).a) (RatP.blk (H.oz 6)) (anyV (H.f 8)) (by first|omega|(dsimp only at *;omega)|exact sgn_no c1) (by first|omega|(dsimp only at *;omega)|exact sgn_no c1)) ?_
   refine RunD.cRs [6] spNum (fun _ _ _ H=>eScale ((a.plus b).b) (((a.plus b).a)⁻¹) (NumP.mk (H.f 9) (H.f 10)) (RatP.n (H.s 6)) (by first|omega|(dsimp only at *;omega)|exact sgn_no c1)) ?_
   refine RunD.cV ((rpnC (pncut (Pn.mk false (((a.plus b).b).scale (((a.plus b).a)⁻¹))))).toList++[.int .i64 (pnerr (Pn.mk false (((a.plus b).b).scale (((a.plus b).a)⁻¹))))]) (.tup [.agg (ks 0 9),.o (.k 9)]) (fun _ _ _ H=>plTold (Pn.mk false (((a.plus b).b).scale (((a.plus b).a)⁻¹))) (PlaceP.mk (H.f 13) (H.f 14)) (by first|omega|(dsimp only at *;omega)|exact sgn_no c1)) ?_
   refine RunD.en ?_
   exact Run.rV (ki_0 c1)
theorem dkcO(a:Ci)(p0:dsOk (rci a)=true):Calls Tryz.prog 58 #[ciV a] W (RetV (.int .i64 0) W):=by
 refine Run.goP (S:=Z0) (Pack.nil.k (ciV a) (ciC a).toList (.s (.agg (ks 0 16)))) Tryz.func58 rfl ?_
 refine Run.cR (spRingC true) (fun _ _ _ H=>ePlateO a p0) ?_
 exact Run.rV rfl
theorem dkcN(a:RCi)(p0:dsOk a=false):Calls Tryz.prog 58 #[rciV a] W (RetV (.int .i64 2) W):=by
 refine Run.goP (S:=Z0) (Pack.nil.k (rciV a) (rciC a).toList (.s (.agg (ks 0 16)))) Tryz.func58 rfl ?_
 refine Run.cR (spRingJC false) (fun _ _ _ H=>ePlateN a p0) ?_
 exact Run.rV rfl
end Go.Proofs.YtcboejgklgnifaaGreat
namespace Go.Proofs.YtcboejgklgnifaaGreat
open Go.RowKit Rgn Eng
def kisR(a b:Ci):RPn:=if a.touch b=true then pncut (a.kis b) else rzPn
def kisE(a b:Ci):Int:=if a.touch b=true then pnerr (a.kis b) else 300
section
variable {a b:Ci}
end
theorem kiA{W:World}(a b:Ci)(p0:dsOk (rci a)=true)(p1:dsOk (rci b)=true):Calls Tryz.prog 63 #[ciV a,ciV b] W (RetV (.tuple #[rpnV (kisR a b),.int .i64 (kisE a b)]) W):=by
 cases h:a.touch b with
 | true=>refine reV ?_ (kiT a b p0 p1 h);unfold kisR kisE;rw [if_pos h,if_pos h]
 | false=>refine reV ?_ (kiF a b p0 p1 h);unfold kisR kisE;rw [if_neg (by rw [h];decide),if_neg (by rw [h];decide)]
theorem im_dot(c d:Ci)(n:Mb)(t:Bool):(c.im n t).dot (d.im n t)=c.dot d*n.det.norm:=by
 obtain⟨A,⟨B1,B2⟩,C⟩:=c
 obtain⟨D,⟨E1,E2⟩,F⟩:=d
 obtain⟨⟨p1,p2⟩,⟨q1,q2⟩,⟨r1,r2⟩,⟨s1,s2⟩,u⟩:=n
 have h2:Rat.divInt (1:Int) (2:Int)=(1:Rat)/2:=by rw [Rat.divInt_eq_div];rfl
 unfold Ci.im Ci.mid Ci.at Ci.dot
 rw [h2]
 cases t<;>simp only [cjC,Cx.norm,Cx.mul,Cx.add,Cx.sub,Cx.conj,Mb.det,if_true,Bool.false_eq_true,if_false]<;>grind
theorem rim_dot(c d:Ci):c.rim.dot d.rim=c.dot d:=by
 unfold Ci.dot;simp only [Ci.rim,Cx.mul,Cx.conj,Cx.neg];grind
theorem dot_times(c d:Ci)(x y:Rat):(c.times x).dot (d.times y)=c.dot d*(x*y):=by
 unfold Ci.dot;simp only [Ci.times,Cx.scale,Cx.mul,Cx.conj];grind
theorem dsI_dot{m:Mb}(h:m.det.zero=false)(hs:isSq m.det.norm=true)(a b:Ci):(m.dsI a).dot (m.dsI b)=a.dot b:=by
 unfold Mb.dsI
 rw [dot_times,rim_dot,im_dot,rim_dot,adj_norm]
 have h1:=rootQ_pos hs (by have:=det_nn h;grind)
 have h2:rootQ m.det.norm*rootQ m.det.norm=m.det.norm:=of_decide_eq_true hs
 have h3:=Rat.mul_inv_cancel (rootQ m.det.norm) (by grind)
 grind
theorem dot_all{a b:Ci}(h:∀ e:Ci,a.dot e=b.dot e):a=b:=by
 have h2:Rat.divInt (1:Int) (2:Int)=(1:Rat)/2:=by rw [Rat.divInt_eq_div];rfl
 have h1:=h ⟨1,⟨0,0⟩,0⟩
 have h3:=h ⟨0,⟨0,0⟩,1⟩
 have h4:=h ⟨0,⟨1,0⟩,0⟩
 have h5:=h ⟨0,⟨0,1⟩,0⟩
 unfold Ci.dot at h1 h3 h4 h5
 rw [h2] at h1 h3 h4 h5
 simp only [Cx.mul,Cx.conj] at h1 h3 h4 h5
 refine ci_ext ?_ ?_ ?_ ?_<;>grind
theorem dsI_inj{m:Mb}(h:m.det.zero=false)(hs:isSq m.det.norm=true){a b:Ci}(e:m.dsI a=m.dsI b):a=b :=
 dot_all fun c=>by rw [← dsI_dot h hs a c,← dsI_dot h hs b c,e]
theorem dsI_plus(m:Mb)(a b:Ci):m.dsI (a.plus b)=(m.dsI a).plus (m.dsI b):=by
 obtain⟨A,⟨B1,B2⟩,C⟩:=a
 obtain⟨D,⟨E1,E2⟩,F⟩:=b
 unfold Mb.dsI
 generalize m.adj=n
 obtain⟨⟨p1,p2⟩,⟨q1,q2⟩,⟨r1,r2⟩,⟨s1,s2⟩,u⟩:=n
 unfold Ci.im Ci.mid Ci.at Ci.plus
 generalize (rootQ m.det.norm)⁻¹=k
 cases m.t<;>refine ci_ext ?_ ?_ ?_ ?_<;>simp only [cjC,Ci.rim,Ci.times,Cx.scale,Cx.norm,Cx.mul,Cx.add,Cx.neg,Cx.conj,if_true,Bool.false_eq_true,if_false]<;>grind
theorem dsI_times(m:Mb)(a:Ci)(x:Rat):m.dsI (a.times x)=(m.dsI a).times x:=by
 obtain⟨A,⟨B1,B2⟩,C⟩:=a
 unfold Mb.dsI
 generalize m.adj=n
 obtain⟨⟨p1,p2⟩,⟨q1,q2⟩,⟨r1,r2⟩,⟨s1,s2⟩,u⟩:=n
 unfold Ci.im Ci.mid Ci.at
 generalize (rootQ m.det.norm)⁻¹=k
 cases m.t<;>refine ci_ext ?_ ?_ ?_ ?_<;>simp only [cjC,Ci.rim,Ci.times,Cx.scale,Cx.norm,Cx.mul,Cx.add,Cx.neg,Cx.conj,if_true,Bool.false_eq_true,if_false]<;>grind
theorem dsI_out(m:Mb)(a:Ci):m.dsI a.out=(m.dsI a).out:=by rw [out_times,dsI_times,out_times]
theorem dsI_touch{m:Mb}(h:m.det.zero=false)(hs:isSq m.det.norm=true)(a b:Ci):(m.dsI a).touch (m.dsI b)=a.touch b:=by
 unfold Ci.touch
 rw [dsI_dot h hs,← dsI_out]
 congr 2
 rw [decide_eq_decide]
 exact⟨fun e=>dsI_inj h hs e,fun e=>by rw [e]⟩
theorem at_cone{s:Ci}(ha:0≤s.a)(hc:0≤s.c)(hd:s.b.norm≤s.a*s.c)(v w:Cx):0≤s.rim.at v w:=by
 have hv:0≤v.norm:=by have h1:=sq_nn v.re;have h2:=sq_nn v.im;show 0≤v.re*v.re+v.im*v.im;grind
 have hw:0≤w.norm:=by have h1:=sq_nn w.re;have h2:=sq_nn w.im;show 0≤w.re*w.re+w.im*w.im;grind
 rcases rat_tri s.a with g|g|g
 ·grind
 ·have hb:s.b.re=0∧s.b.im=0:=by
   have h1:=sq_nn s.b.re
   have h2:=sq_nn s.b.im
   have h3:s.b.re*s.b.re+s.b.im*s.b.im≤s.a*s.c:=hd
   rw [g,Rat.zero_mul] at h3
   have h4:s.b.re*s.b.re=0:=by grind
   have h5:s.b.im*s.b.im=0:=by grind
   constructor
   ·rcases Rat.mul_eq_zero.1 h4 with h|h<;>exact h
   ·rcases Rat.mul_eq_zero.1 h5 with h|h<;>exact h
  have e:s.rim.at v w=s.c*w.norm:=by
   obtain⟨a,⟨b1,b2⟩,c⟩:=s
   obtain⟨rfl,rfl⟩:=hb
   obtain rfl:=g
   unfold Ci.at;simp only [Ci.rim,Cx.mul,Cx.conj,Cx.neg,Cx.norm];grind
  rw [e];exact Rat.mul_nonneg hc hw
 ·have e:s.a*s.rim.at v w=((v.scale s.a).sub (s.b.mul w)).norm+(s.a*s.c-s.b.norm)*w.norm:=by
   obtain⟨a,⟨b1,b2⟩,c⟩:=s
   unfold Ci.at;simp only [Ci.rim,Cx.mul,Cx.conj,Cx.neg,Cx.norm,Cx.scale,Cx.sub];grind
  have h1:0≤((v.scale s.a).sub (s.b.mul w)).norm:=by
   generalize (v.scale s.a).sub (s.b.mul w)=z
   have h1:=sq_nn z.re;have h2:=sq_nn z.im;show 0≤z.re*z.re+z.im*z.im;grind
  have h2:0≤(s.a*s.c-s.b.norm)*w.norm:=Rat.mul_nonneg (by grind) hw
  rcases rat_tri (s.rim.at v w) with k|k|k
  ·have:=Rat.mul_pos g (show 0 < -(s.rim.at v w) by grind);grind
  ·grind
  ·grind
theorem dsI_cone{m:Mb}(h:m.det.zero=false)(hs:isSq m.det.norm=true){s:Ci}(ha:0≤s.a)(hc:0≤s.c)(hd:s.b.norm≤s.a*s.c):0≤(m.dsI s).a∧0≤(m.dsI s).c:=by
 have h1:=Rat.inv_pos.2 (rootQ_pos hs (by have:=det_nn h;grind))
 constructor
 ·show 0≤s.rim.at _ _*_
  exact Rat.mul_nonneg (at_cone ha hc hd _ _) (by grind)
 ·show 0≤s.rim.at _ _*_
  exact Rat.mul_nonneg (at_cone ha hc hd _ _) (by grind)
theorem dot_self(s:Ci):s.dot s=s.a*s.c-s.b.norm:=by
 have h2:Rat.divInt (1:Int) (2:Int)=(1:Rat)/2:=by rw [Rat.divInt_eq_div];rfl
 unfold Ci.dot;rw [h2];simp only [Cx.mul,Cx.conj,Cx.norm];grind
theorem dsI_back{m:Mb}(h:m.det.zero=false)(hs:isSq m.det.norm=true){s:Ci}(hd:s.b.norm≤s.a*s.c)(ha:0≤(m.dsI s).a)(hc:0≤(m.dsI s).c):0≤s.a∧0≤s.c:=by
 have hn:0≤s.b.norm:=by have h1:=sq_nn s.b.re;have h2:=sq_nn s.b.im;show 0≤s.b.re*s.b.re+s.b.im*s.b.im;grind
 have key:s.a≤0→s.c≤0→s.a=0∧s.c=0:=by
  intro k1 k2
  have e1:(s.times (-1)).b.norm=s.b.norm:=by simp only [Ci.times,Cx.scale,Cx.norm];grind
  have e2:=dsI_cone h hs (s:=s.times (-1)) (by show 0≤s.a*-1;grind) (by show 0≤s.c*-1;grind) (by rw [e1];show s.b.norm≤s.a*-1*(s.c*-1);grind)
  rw [dsI_times] at e2
  have e3:0≤(m.dsI s).a*-1:=e2.1
  have e4:0≤(m.dsI s).c*-1:=e2.2
  have e5:(m.dsI s).a=0:=by grind
  have e6:(m.dsI s).c=0:=by grind
  have e7:=dsI_dot h hs s s
  rw [dot_self,dot_self,e5,Rat.zero_mul] at e7
  have h1:=sq_nn (m.dsI s).b.re
  have h2:=sq_nn (m.dsI s).b.im
  have e8:(0:Rat)-((m.dsI s).b.re*(m.dsI s).b.re+(m.dsI s).b.im*(m.dsI s).b.im)=s.a*s.c-s.b.norm:=e7
  have h4:(m.dsI s).b.re*(m.dsI s).b.re=0:=by grind
  have h5:(m.dsI s).b.im*(m.dsI s).b.im=0:=by grind
  have g1:(m.dsI s).b.re=0:=by rcases Rat.mul_eq_zero.1 h4 with h|h<;>exact h
  have g2:(m.dsI s).b.im=0:=by rcases Rat.mul_eq_zero.1 h5 with h|h<;>exact h
  have g3:m.dsI s=m.dsI (s.times 0):=by
   rw [dsI_times]
   refine ci_ext ?_ ?_ ?_ ?_
   ·rw [e5];show (0:Rat)=_*0;grind
   ·rw [g1];show (0:Rat)=_*0;grind
   ·rw [g2];show (0:Rat)=_*0;grind
   ·rw [e6];show (0:Rat)=_*0;grind
  have g4:=dsI_inj h hs g3
  have g5:s.a=s.a*0:=congrArg Ci.a g4
  have g6:s.c=s.c*0:=congrArg Ci.c g4
  exact⟨by grind,by grind⟩
 have hac:0≤s.a*s.c:=by grind
 rcases rat_tri s.a with k|k|k
 ·have h2:s.c≤0:=by
   rcases rat_tri s.c with g|g|g
   ·grind
   ·grind
   ·have:=Rat.mul_pos (show 0 < -s.a by grind) g;grind
  have:=key (by grind) h2
  grind
 ·rcases rat_tri s.c with g|g|g
  ·have:=key (by grind) (by grind);grind
  ·exact⟨by grind,by grind⟩
  ·exact⟨by grind,by grind⟩
 ·refine⟨by grind,?_⟩
  rcases rat_tri s.c with g|g|g
  ·have:=Rat.mul_pos k (show 0 < -s.c by grind);grind
  ·grind
  ·grind
theorem sg_le(x:Rat):decide (0≤x.num.sign)=decide (0≤x):=by
 rw [decide_eq_decide]
 rcases rat_tri x with h|h|h
 ·rw [sg_neg h];constructor<;>intro k
  ·exact absurd k (by decide)
  ·grind
 ·subst h;exact⟨fun _=>by decide,fun _=>by decide⟩
 ·rw [sg_pos h];constructor<;>intro k
  ·grind
  ·decide
theorem icmp_ge{x y:Int}(h:decide (0≤icmp x y)=true):y≤x:=by
 have h:=of_decide_eq_true h
 unfold icmp at h
 split at h
 ·exact absurd h (by decide)
 ·omega
theorem rat_ge1{x:Rat}(h:decide (0≤icmp (x.num*((1:Rat).den:Int)) ((1:Rat).num*(x.den:Int)))=true):1≤x:=by
 have h:=icmp_ge h
 have h1:((1:Rat).num*(x.den:Int))=(x.den:Int):=Int.one_mul _
 have h2:x.num*((1:Rat).den:Int)=x.num:=Int.mul_one _
 rw [h1,h2] at h
 rw [Rat.le_iff]
 show 1*(x.den:Int)≤x.num*1
 omega
theorem dsI_apt{m:Mb}(h:m.det.zero=false)(hs:isSq m.det.norm=true){a b:Ci}(ha:a.dot a=-1)(hb:b.dot b=-1):(m.dsI a).apt (m.dsI b)=a.apt b:=by
 unfold Ci.apt
 rw [dsI_dot h hs,← dsI_plus]
 cases e:decide (0≤icmp ((a.dot b).num*((1:Rat).den:Int)) ((1:Rat).num*((a.dot b).den:Int))) with
 | false=>rfl
 | true =>
  have h1:=rat_ge1 e
  have h2:(a.plus b).dot (a.plus b)=a.dot a+b.dot b+2*a.dot b:=by
   have h2:Rat.divInt (1:Int) (2:Int)=(1:Rat)/2:=by rw [Rat.divInt_eq_div];rfl
   unfold Ci.plus Ci.dot;rw [h2];simp only [Cx.mul,Cx.conj,Cx.add];grind
  rw [dot_self,ha,hb] at h2
  have h3:(a.plus b).b.norm≤(a.plus b).a*(a.plus b).c:=by grind
  rw [sg_le,sg_le,sg_le,sg_le,Bool.true_and,Bool.true_and,← Bool.decide_and,← Bool.decide_and,decide_eq_decide]
  exact⟨fun k=>dsI_back h hs h3 k.1 k.2,fun k=>dsI_cone h hs k.1 k.2 h3⟩
theorem kis_side{a b:Ci}(ha:a.dot a=-1)(hb:b.dot b=-1)(ht:a.touch b=true):a.rim.side (a.kis b)=0:=by
 unfold Ci.touch at ht
 rw [Bool.and_eq_true,Bool.not_eq_true'] at ht
 have h1:=of_decide_eq_true ht.1
 have h2:=of_decide_eq_false ht.2
 have hh:Rat.divInt (1:Int) (2:Int)=(1:Rat)/2:=by rw [Rat.divInt_eq_div];rfl
 unfold Ci.dot at ha hb h1
 rw [hh] at ha hb h1
 rw [side_at]
 have hz:∀ x:Rat,x=0→x.num.sign=0:=fun x h=>by rw [h];rfl
 apply hz
 cases e:((a.plus b).a.num.sign == 0) with
 | true =>
  rw [kis_1 e]
  have e:=sgn_iff.1 e
  have n0:(a.plus b).b.re*(a.plus b).b.re+(a.plus b).b.im*(a.plus b).b.im=0:=by
   obtain⟨A,⟨B1,B2⟩,C⟩:=a
   obtain⟨D,⟨E1,E2⟩,F⟩:=b
   simp only [Ci.plus,Cx.add,Cx.mul,Cx.conj] at ha hb h1 e ⊢
   have:D=-A:=by grind
   subst this
   grind
  have q1:=sq_nn (a.plus b).b.re
  have q2:=sq_nn (a.plus b).b.im
  have h4:(a.plus b).b.re*(a.plus b).b.re=0:=by grind
  have h5:(a.plus b).b.im*(a.plus b).b.im=0:=by grind
  have g1:(a.plus b).b.re=0:=by rcases Rat.mul_eq_zero.1 h4 with h|h<;>exact h
  have g2:(a.plus b).b.im=0:=by rcases Rat.mul_eq_zero.1 h5 with h|h<;>exact h
  have e' : a.rim.at (Pn.mk true ⟨0,0⟩).hv (Pn.mk true ⟨0,0⟩).hw=a.a:=by
   show a.rim.at ⟨1,0⟩ ⟨0,0⟩=a.a
   unfold Ci.at;simp only [Cx.mul,Cx.conj,Cx.norm];grind
  rw [e']
  have key:a.a*(a.plus b).c=0:=by
   obtain⟨A,⟨B1,B2⟩,C⟩:=a
   obtain⟨D,⟨E1,E2⟩,F⟩:=b
   simp only [Ci.plus,Cx.add,Cx.mul,Cx.conj] at ha hb h1 e g1 g2 ⊢
   have k1:D=-A:=by grind
   have k2:E1=-B1:=by grind
   have k3:E2=-B2:=by grind
   subst k1;subst k2;subst k3
   grind
  rcases Rat.mul_eq_zero.1 key with k|k
  ·exact k
  ·exfalso
   apply h2
   refine ci_ext ?_ ?_ ?_ ?_
   ·show a.a=-b.a;have e:a.a+b.a=0:=e;grind
   ·show a.b.re=-b.b.re;have e:a.b.re+b.b.re=0:=g1;grind
   ·show a.b.im=-b.b.im;have e:a.b.im+b.b.im=0:=g2;grind
   ·show a.c=-b.c;have e:a.c+b.c=0:=k;grind
 | false =>
  rw [kis_0 e]
  have e:=sgn_no e
  have hi:=Rat.mul_inv_cancel _ e
  show a.rim.at ((a.plus b).b.scale (a.plus b).a⁻¹) ⟨1,0⟩=0
  have key:(a.plus b).a*a.rim.at ((a.plus b).b.scale (a.plus b).a⁻¹) ⟨1,0⟩=0:=by
   obtain⟨A,⟨B1,B2⟩,C⟩:=a
   obtain⟨D,⟨E1,E2⟩,F⟩:=b
   unfold Ci.at
   simp only [Ci.rim,Ci.plus,Cx.add,Cx.mul,Cx.conj,Cx.neg,Cx.norm,Cx.scale] at ha hb h1 e hi ⊢
   generalize (A+D)⁻¹=i at hi ⊢
   grind
  exact (Rat.mul_eq_zero.1 key).resolve_left e
end Go.Proofs.YtcboejgklgnifaaGreat
namespace Go.Proofs.YtcboejgklgnifaaGreat
open Go.RowKit Rgn Eng
variable {S:Nat→Prop} {W:World}
theorem mtUndo{v0:Value}(m:Mb)(t0:(MatP m).p S v0 W)(p0:ht m.a.re+ht m.a.im+ht m.b.re+ht m.b.im+ht m.c.re+ht m.c.im+ht m.d.re+ht m.d.im≤268435456)(p1:m.det.zero=false):Calls Tryz.prog 212 #[v0] W (Ret (MatP m.undo) S W):=by
 have h1:=hc_neg m.b
 have h2:=hc_neg m.c
 have h3:=hc_conj m.d
 have h4:=hc_conj m.a
 have h5:=hc_conj m.b.neg
 have h6:=hc_conj m.c.neg
 refine Run.goP (S:=S) (Pack.nil.s spMat t0) Tryz.func212 rfl ?_
 refine Run.dr ?_
 refine RunD.cR spNum (fun _ _ _ H=>eNeg m.b (NumP.mk (H.f 2) (H.f 3)) (by first|omega|(dsimp only at *;omega)|exact undo_p1 p1 _|exact undo_p0 p1 _)) ?_
 refine RunD.cR spNum (fun _ _ _ H=>eNeg m.c (NumP.mk (H.f 4) (H.f 5)) (by first|omega|(dsimp only at *;omega)|exact undo_p1 p1 _|exact undo_p0 p1 _)) ?_
 refine RunD.en ?_
 refine (Bool.eq_false_or_eq_true (m.t)).elim (fun c1=>?_) (fun c1=>?_)
 · refine Run.kn c1 ?_
   refine Run.dr ?_
   refine RunD.cR spNum (fun _ _ _ H=>eConj m.d (NumP.mk (H.f 6) (H.f 7)) (by first|omega|(dsimp only at *;omega)|exact undo_p1 p1 c1|exact undo_p0 p1 c1)) ?_
   refine RunD.cR spNum (fun _ _ _ H=>eConj m.b.neg (NumP.mk (H.f 8) (H.f 9)) (by first|omega|(dsimp only at *;omega)|exact undo_p1 p1 c1|exact undo_p0 p1 c1)) ?_
   refine RunD.cR spNum (fun _ _ _ H=>eConj m.c.neg (NumP.mk (H.f 10) (H.f 11)) (by first|omega|(dsimp only at *;omega)|exact undo_p1 p1 c1|exact undo_p0 p1 c1)) ?_
   refine RunD.cR spNum (fun _ _ _ H=>eConj m.a (NumP.mk (H.f 0) (H.f 1)) (by first|omega|(dsimp only at *;omega)|exact undo_p1 p1 c1|exact undo_p0 p1 c1)) ?_
   refine RunD.en ?_
   refine Run.cR spMat (fun _ _ _ H=>mtNorm (Mb.mk m.d.conj m.b.neg.conj m.c.neg.conj m.a.conj m.t) (MatP.mk (H.f 12) (H.f 13) (H.f 14) (H.f 15) (H.f 16) (H.f 17) (H.f 18) (H.f 19)) (by first|omega|(dsimp only at *;omega)|exact undo_p1 p1 c1|exact undo_p0 p1 c1) (by first|omega|(dsimp only at *;omega)|exact undo_p1 p1 c1|exact undo_p0 p1 c1)) ?_
   exact Run.rR (fun _ _ _ H=>VPe (φ:=MatP) (undo_1 c1) (MatP.mk (H.f 20) (H.f 21) (H.f 22) (H.f 23) (H.f 24) (H.f 25) (H.f 26) (H.f 27)))
 · refine Run.kn c1 ?_
   refine Run.cR spMat (fun _ _ _ H=>mtNorm (Mb.mk m.d m.b.neg m.c.neg m.a m.t) (MatP.mk (H.f 6) (H.f 7) (H.f 8) (H.f 9) (H.f 10) (H.f 11) (H.f 0) (H.f 1)) (by first|omega|(dsimp only at *;omega)|exact undo_p1 p1 c1|exact undo_p0 p1 c1) (by first|omega|(dsimp only at *;omega)|exact undo_p1 p1 c1|exact undo_p0 p1 c1)) ?_
   exact Run.rR (fun _ _ _ H=>VPe (φ:=MatP) (undo_0 c1) (MatP.mk (H.f 12) (H.f 13) (H.f 14) (H.f 15) (H.f 16) (H.f 17) (H.f 18) (H.f 19)))
theorem mtSend{v0 v1:Value}(m:Mb)(p:Pn)(t0:(MatP m).p S v0 W)(t1:(PlaceP p).p S v1 W)(p0:ht m.a.re+ht m.a.im+ht m.b.re+ht m.b.im+ht m.c.re+ht m.c.im+ht m.d.re+ht m.d.im+(ht p.z.re+ht p.z.im)≤67108864):Calls Tryz.prog 108 #[v0,v1] W (Ret (PlaceP (m.send p)) S W):=by
 have h1:=hc_conj p.z
 have h2:=hc_mul m.a p.z
 have h3:=hc_mul m.c p.z
 have h4:=hc_mul m.a p.z.conj
 have h5:=hc_mul m.c p.z.conj
 have h6:=hc_add (m.a.mul p.z) m.b
 have h7:=hc_add (m.c.mul p.z) m.d
 have h8:=hc_add (m.a.mul p.z.conj) m.b
 have h9:=hc_add (m.c.mul p.z.conj) m.d
 refine Run.goP (S:=S) ((Pack.nil.s spMat t0).s spPlace t1) Tryz.func108 rfl ?_
 refine Run.dr ?_
 refine RunD.en ?_
 refine (Bool.eq_false_or_eq_true (p.inf)).elim (fun c1=>?_) (fun c1=>?_)
 · refine Run.kn c1 ?_
   refine Run.cV [.bool m.c.zero] kb (fun _ _ _ H=>eZero m.c (NumP.mk (H.f 4) (H.f 5))) ?_
   refine (Bool.eq_false_or_eq_true (m.c.zero)).elim (fun c2=>?_) (fun c2=>?_)
   · refine Run.kn c2 ?_
     exact Run.rR (fun _ _ _ H=>VPe (φ:=PlaceP) (send_iT (by rw [c1];rfl) c2) (PlaceP.mk (RatN.nil rfl) (RatN.nil rfl)))
   · refine Run.kn c2 ?_
     refine Run.cR spNum (fun _ _ _ H=>eDiv m.a m.c (NumP.mk (H.f 0) (H.f 1)) (NumP.mk (H.f 4) (H.f 5)) (by first|omega|(dsimp only at *;omega)|exact zero_norm _|exact zero_norm c2) (by first|omega|(dsimp only at *;omega)|exact zero_norm _|exact zero_norm c2)) ?_
     exact Run.rR (fun _ _ _ H=>VPe (φ:=PlaceP) (send_iF (by rw [c1];rfl) c2) (PlaceP.mk (H.f 10) (H.f 11)))
 · refine Run.kn c1 ?_
   refine (Bool.eq_false_or_eq_true (m.t)).elim (fun c3=>?_) (fun c3=>?_)
   · refine Run.kn c3 ?_
     refine Run.cR spNum (fun _ _ _ H=>eConj p.z (NumP.mk (H.f 8) (H.f 9)) (by first|omega|(dsimp only at *;omega)|exact zero_norm _|exact zero_norm c3)) ?_
     refine Run.dr ?_
     refine RunD.cR spNum (fun _ _ _ H=>eNMul m.a p.z.conj (NumP.mk (H.f 0) (H.f 1)) (NumP.mk (H.f 10) (H.f 11)) (by first|omega|(dsimp only at *;omega)|exact zero_norm _|exact zero_norm c3)) ?_
     refine RunD.cR spNum (fun _ _ _ H=>eAdd (m.a.mul p.z.conj) m.b (NumP.mk (H.f 12) (H.f 13)) (NumP.mk (H.f 2) (H.f 3)) (by first|omega|(dsimp only at *;omega)|exact zero_norm _|exact zero_norm c3)) ?_
     refine RunD.cR spNum (fun _ _ _ H=>eNMul m.c p.z.conj (NumP.mk (H.f 4) (H.f 5)) (NumP.mk (H.f 10) (H.f 11)) (by first|omega|(dsimp only at *;omega)|exact zero_norm _|exact zero_norm c3)) ?_
     refine RunD.cR spNum (fun _ _ _ H=>eAdd (m.c.mul p.z.conj) m.d (NumP.mk (H.f 16) (H.f 17)) (NumP.mk (H.f 6) (H.f 7)) (by first|omega|(dsimp only at *;omega)|exact zero_norm _|exact zero_norm c3)) ?_
     refine RunD.en ?_
     refine Run.cV [.bool (((m.c.mul p.z.conj).add m.d).zero)] kb (fun _ _ _ H=>eZero ((m.c.mul p.z.conj).add m.d) (NumP.mk (H.f 18) (H.f 19))) ?_
     refine (Bool.eq_false_or_eq_true (((m.c.mul p.z.conj).add m.d).zero)).elim (fun c4=>?_) (fun c4=>?_)
     · refine Run.kn c4 ?_
       exact Run.rR (fun _ _ _ H=>VPe (φ:=PlaceP) (send_n1T (by rw [c1];rfl) c3 c4) (PlaceP.mk (RatN.nil rfl) (RatN.nil rfl)))
     · refine Run.kn c4 ?_
       refine Run.cR spNum (fun _ _ _ H=>eDiv ((m.a.mul p.z.conj).add m.b) ((m.c.mul p.z.conj).add m.d) (NumP.mk (H.f 14) (H.f 15)) (NumP.mk (H.f 18) (H.f 19)) (by first|omega|(dsimp only at *;omega)|exact zero_norm c4|exact zero_norm c3) (by first|omega|(dsimp only at *;omega)|exact zero_norm c4|exact zero_norm c3)) ?_
       exact Run.rR (fun _ _ _ H=>VPe (φ:=PlaceP) (send_n1F (by rw [c1];rfl) c3 c4) (PlaceP.mk (H.f 20) (H.f 21)))
   · refine Run.kn c3 ?_
     refine Run.dr ?_
     refine RunD.cR spNum (fun _ _ _ H=>eNMul m.a p.z (NumP.mk (H.f 0) (H.f 1)) (NumP.mk (H.f 8) (H.f 9)) (by first|omega|(dsimp only at *;omega)|exact zero_norm _|exact zero_norm c3)) ?_
     refine RunD.cR spNum (fun _ _ _ H=>eAdd (m.a.mul p.z) m.b (NumP.mk (H.f 10) (H.f 11)) (NumP.mk (H.f 2) (H.f 3)) (by first|omega|(dsimp only at *;omega)|exact zero_norm _|exact zero_norm c3)) ?_
     refine RunD.cR spNum (fun _ _ _ H=>eNMul m.c p.z (NumP.mk (H.f 4) (H.f 5)) (NumP.mk (H.f 8) (H.f 9)) (by first|omega|(dsimp only at *;omega)|exact zero_norm _|exact zero_norm c3)) ?_
     refine RunD.cR spNum (fun _ _ _ H=>eAdd (m.c.mul p.z) m.d (NumP.mk (H.f 14) (H.f 15)) (NumP.mk (H.f 6) (H.f 7)) (by first|omega|(dsimp only at *;omega)|exact zero_norm _|exact zero_norm c3)) ?_
     refine RunD.en ?_
     refine Run.cV [.bool (((m.c.mul p.z).add m.d).zero)] kb (fun _ _ _ H=>eZero ((m.c.mul p.z).add m.d) (NumP.mk (H.f 16) (H.f 17))) ?_
     refine (Bool.eq_false_or_eq_true (((m.c.mul p.z).add m.d).zero)).elim (fun c5=>?_) (fun c5=>?_)
     · refine Run.kn c5 ?_
       exact Run.rR (fun _ _ _ H=>VPe (φ:=PlaceP) (send_n0T (by rw [c1];rfl) c3 c5) (PlaceP.mk (RatN.nil rfl) (RatN.nil rfl)))
     · refine Run.kn c5 ?_
       refine Run.cR spNum (fun _ _ _ H=>eDiv ((m.a.mul p.z).add m.b) ((m.c.mul p.z).add m.d) (NumP.mk (H.f 12) (H.f 13)) (NumP.mk (H.f 16) (H.f 17)) (by first|omega|(dsimp only at *;omega)|exact zero_norm c5|exact zero_norm c3) (by first|omega|(dsimp only at *;omega)|exact zero_norm c5|exact zero_norm c3)) ?_
       exact Run.rR (fun _ _ _ H=>VPe (φ:=PlaceP) (send_n0F (by rw [c1];rfl) c3 c5) (PlaceP.mk (H.f 18) (H.f 19)))
theorem mtAt{v0 v1 w2_0 w2_1 w2_2 w2_3:Value}{b2:Nat}(v w:Cx)(c:Ci)(t0:(NumP v).p S v0 W)(t1:(NumP w).p S v1 W)(B2:W.heap[b2]? = some (.cells #[w2_0,w2_1,w2_2,w2_3] 171 (0,0)))(t2:(RingP c).p S (.agg #[w2_0,w2_1,w2_2,w2_3]) W)(p0:ht v.re+ht v.im+ht w.re+ht w.im≤10000000)(p1:ht c.a+ht c.b.re+ht c.b.im+ht c.c≤400000):Calls Tryz.prog 213 #[v0,v1,.pointer (some ⟨b2,0,none⟩)] W (Ret (RatP (c.at v w)) S W):=by
 obtain⟨e1,e2,e3⟩:=hb_ci p1
 obtain⟨f1,f2⟩:HB v 10000000∧HB w 10000000:=(by unfold HB;omega)
 have k0:=HB.mul e2 f1 20800000
 have k1:=HB.conj f2
 have k2:=HB.mul k0 k1 61600000
 have k3:=HB.norm f1 40000000
 have k4:=hb_mul e1 k3 40400000
 have k5:=hb_add k2.1 k2.1 123200000
 have k6:=HB.norm f2 40000000
 have k7:=hb_mul e3 k6 40400000
 have k8:=(hb_add (hb_add (hb_add (Nat.le_of_eq ht_zero) k4 40400002) k5 163600002) k7 204000002)
 refine Run.goP (S:=S) (((Pack.nil.s spNum t0).s spNum t1).bv B2 none 4 (ringCells t2)) Tryz.func213 rfl ?_
 refine Run.dr ?_
 refine RunD.cR spNum (fun _ _ _ H=>eNMul c.b v (NumP.mk (H.f 5) (H.f 6)) (NumP.mk (H.f 0) (H.f 1)) (Nat.le_trans (Nat.add_le_add (Nat.add_le_add (Nat.add_le_add e2.1 e2.2) f1.1) f1.2) (by decide))) ?_
 refine RunD.cR spNum (fun _ _ _ H=>eConj w (NumP.mk (H.f 2) (H.f 3)) (Nat.le_trans (Nat.add_le_add f2.1 f2.2) (by decide))) ?_
 refine RunD.cR spNum (fun _ _ _ H=>eNMul (c.b.mul v) w.conj (NumP.mk (H.f 8) (H.f 9)) (NumP.mk (H.f 10) (H.f 11)) (Nat.le_trans (Nat.add_le_add (Nat.add_le_add (Nat.add_le_add k0.1 k0.2) k1.1) k1.2) (by decide))) ?_
 refine RunD.cR sp2Rat (fun _ _ _ H=>eParts ((c.b.mul v).mul w.conj) (NumP.mk (H.f 12) (H.f 13))) ?_
 refine RunD.en ?_
 refine Run.dr ?_
 refine RunD.cR spRat (fun _ _ _ H=>eNorm v (NumP.mk (H.f 0) (H.f 1)) (Nat.le_trans (Nat.add_le_add f1.1 f1.2) (by decide))) ?_
 refine RunD.cR spRat (fun _ _ _ H=>eMul c.a v.norm (RatP.n (H.f 4)) (RatP.n (H.f 16)) (Nat.le_trans (Nat.add_le_add e1 k3) (by decide))) ?_
 refine RunD.cR spRat (fun _ _ _ H=>eTwice (((c.b.mul v).mul w.conj).re) (H.f 14) (Nat.le_trans k2.1 (by decide))) ?_
 refine RunD.cR spRat (fun _ _ _ H=>eNorm w (NumP.mk (H.f 2) (H.f 3)) (Nat.le_trans (Nat.add_le_add f2.1 f2.2) (by decide))) ?_
 refine RunD.cR spRat (fun _ _ _ H=>eMul c.c w.norm (RatP.n (H.f 7)) (RatP.n (H.f 19)) (Nat.le_trans (Nat.add_le_add e3 k6) (by decide))) ?_
 refine RunD.cR spRat (fun _ _ _ H=>retZ (eSum3 (c.a*v.norm) ((((c.b.mul v).mul w.conj).re)+(((c.b.mul v).mul w.conj).re)) (c.c*w.norm) (RatsP.mk3 (H.b 3) (H.f 17) (H.f 18) (H.f 20)) (Nat.le_trans (Nat.add_le_add (Nat.add_le_add k4 k5) k7) (by decide)))) ?_
 refine RunD.en ?_
 exact Run.rR (fun _ _ _ H=>VPe (φ:=RatP) (at_eq c v w) (H.f 21))
theorem mtImg{v0 v1:Value}(m:Mb)(c:Ci)(t0:(MatP m).p S v0 W)(t1:(RingP c).p S v1 W)(p0:ht m.a.re+ht m.a.im+ht m.b.re+ht m.b.im+ht m.c.re+ht m.c.im+ht m.d.re+ht m.d.im≤268435456)(p1:m.ub 2400000)(p2:ht c.a+ht c.b.re+ht c.b.im+ht c.c≤400000)(p3:m.det.zero=false)(p4:c.pos=true):Calls Tryz.prog 149 #[v0,v1] W (Ret (RingP ((m.img c).nrm)) S W):=by
 obtain⟨e1,e2,e3⟩:=hb_ci p2
 have k0:=HB.conj p1.2.1
 have k1:=HB.mul p1.1 k0 9600000
 have k2:=HB.scale k1 e1 10000000
 have k3:=HB.mul e2 p1.1 5600000
 have k4:=HB.conj p1.2.2.2
 have k5:=HB.mul k3 k4 16000000
 have k6:=HB.add k2 k5 26000000
 have k7:=HB.mul e2 p1.2.1 5600000
 have k8:=HB.conj k7
 have k9:=HB.mul k8 p1.2.2.1 16000000
 have k10:=HB.add k6 k9 42000000
 have k11:=HB.mul p1.2.2.1 k4 9600000
 have k12:=HB.scale k11 e3 10000000
 have k13:=HB.add k10 k12 52000000
 have k14:=HB.conj k13
 have k15:=at_hb e1 e2 e3 p1.1 p1.2.2.1 52000000
 have k16:=at_hb e1 e2 e3 p1.2.1 p1.2.2.2 52000000
 refine Run.goP (S:=S) ((Pack.nil.s spMat t0).s spRing t1) Tryz.func149 rfl ?_
 refine Run.cR spMat (fun _ _ _ H=>mtUndo m (MatP.mk (H.f 0) (H.f 1) (H.f 2) (H.f 3) (H.f 4) (H.f 5) (H.f 6) (H.f 7)) p0 p3) ?_
 refine Run.dr ?_
 refine RunD.en ?_
 refine Run.dr ?_
 refine RunD.cR spNum (fun _ _ _ H=>eConj m.undo.b (NumP.mk (H.f 14) (H.f 15)) (Nat.le_trans (Nat.add_le_add p1.2.1.1 p1.2.1.2) (by decide))) ?_
 refine RunD.cR spNum (fun _ _ _ H=>eNMul m.undo.a m.undo.b.conj (NumP.mk (H.f 12) (H.f 13)) (NumP.mk (H.f 20) (H.f 21)) (Nat.le_trans (Nat.add_le_add (Nat.add_le_add (Nat.add_le_add p1.1.1 p1.1.2) k0.1) k0.2) (by decide))) ?_
 refine RunD.cR spNum (fun _ _ _ H=>eScale (m.undo.a.mul m.undo.b.conj) c.a (NumP.mk (H.f 22) (H.f 23)) (RatP.n (H.f 8)) (Nat.le_trans (Nat.add_le_add (Nat.add_le_add k1.1 k1.2) e1) (by decide))) ?_
 refine RunD.cR spNum (fun _ _ _ H=>eNMul c.b m.undo.a (NumP.mk (H.f 9) (H.f 10)) (NumP.mk (H.f 12) (H.f 13)) (Nat.le_trans (Nat.add_le_add (Nat.add_le_add (Nat.add_le_add e2.1 e2.2) p1.1.1) p1.1.2) (by decide))) ?_
 refine RunD.cR spNum (fun _ _ _ H=>eConj m.undo.d (NumP.mk (H.f 18) (H.f 19)) (Nat.le_trans (Nat.add_le_add p1.2.2.2.1 p1.2.2.2.2) (by decide))) ?_
 refine RunD.cR spNum (fun _ _ _ H=>eNMul (c.b.mul m.undo.a) m.undo.d.conj (NumP.mk (H.f 26) (H.f 27)) (NumP.mk (H.f 28) (H.f 29)) (Nat.le_trans (Nat.add_le_add (Nat.add_le_add (Nat.add_le_add k3.1 k3.2) k4.1) k4.2) (by decide))) ?_
 refine RunD.cR spNum (fun _ _ _ H=>eAdd ((m.undo.a.mul m.undo.b.conj).scale c.a) ((c.b.mul m.undo.a).mul m.undo.d.conj) (NumP.mk (H.f 24) (H.f 25)) (NumP.mk (H.f 30) (H.f 31)) (Nat.le_trans (Nat.add_le_add (Nat.add_le_add (Nat.add_le_add k2.1 k2.2) k5.1) k5.2) (by decide))) ?_
 refine RunD.cR spNum (fun _ _ _ H=>eNMul c.b m.undo.b (NumP.mk (H.f 9) (H.f 10)) (NumP.mk (H.f 14) (H.f 15)) (Nat.le_trans (Nat.add_le_add (Nat.add_le_add (Nat.add_le_add e2.1 e2.2) p1.2.1.1) p1.2.1.2) (by decide))) ?_
 refine RunD.cR spNum (fun _ _ _ H=>eConj (c.b.mul m.undo.b) (NumP.mk (H.f 34) (H.f 35)) (Nat.le_trans (Nat.add_le_add k7.1 k7.2) (by decide))) ?_
 refine RunD.cR spNum (fun _ _ _ H=>eNMul ((c.b.mul m.undo.b).conj) m.undo.c (NumP.mk (H.f 36) (H.f 37)) (NumP.mk (H.f 16) (H.f 17)) (Nat.le_trans (Nat.add_le_add (Nat.add_le_add (Nat.add_le_add k8.1 k8.2) p1.2.2.1.1) p1.2.2.1.2) (by decide))) ?_
 refine RunD.cR spNum (fun _ _ _ H=>eAdd (((m.undo.a.mul m.undo.b.conj).scale c.a).add ((c.b.mul m.undo.a).mul m.undo.d.conj)) (((c.b.mul m.undo.b).conj).mul m.undo.c) (NumP.mk (H.f 32) (H.f 33)) (NumP.mk (H.f 38) (H.f 39)) (Nat.le_trans (Nat.add_le_add (Nat.add_le_add (Nat.add_le_add k6.1 k6.2) k9.1) k9.2) (by decide))) ?_
 refine RunD.cR spNum (fun _ _ _ H=>eConj m.undo.d (NumP.mk (H.f 18) (H.f 19)) (Nat.le_trans (Nat.add_le_add p1.2.2.2.1 p1.2.2.2.2) (by decide))) ?_
 refine RunD.cR spNum (fun _ _ _ H=>eNMul m.undo.c m.undo.d.conj (NumP.mk (H.f 16) (H.f 17)) (NumP.mk (H.f 42) (H.f 43)) (Nat.le_trans (Nat.add_le_add (Nat.add_le_add (Nat.add_le_add p1.2.2.1.1 p1.2.2.1.2) k4.1) k4.2) (by decide))) ?_
 refine RunD.cR spNum (fun _ _ _ H=>eScale (m.undo.c.mul m.undo.d.conj) c.c (NumP.mk (H.f 44) (H.f 45)) (RatP.n (H.f 11)) (Nat.le_trans (Nat.add_le_add (Nat.add_le_add k11.1 k11.2) e3) (by decide))) ?_
 refine RunD.cR spNum (fun _ _ _ H=>eAdd ((((m.undo.a.mul m.undo.b.conj).scale c.a).add ((c.b.mul m.undo.a).mul m.undo.d.conj)).add (((c.b.mul m.undo.b).conj).mul m.undo.c)) ((m.undo.c.mul m.undo.d.conj).scale c.c) (NumP.mk (H.f 40) (H.f 41)) (NumP.mk (H.f 46) (H.f 47)) (Nat.le_trans (Nat.add_le_add (Nat.add_le_add (Nat.add_le_add k10.1 k10.2) k12.1) k12.2) (by decide))) ?_
 refine RunD.en ?_
 refine (Bool.eq_false_or_eq_true (m.t)).elim (fun c1=>?_) (fun c1=>?_)
 · refine Run.kn c1 ?_
   refine Run.cR spNum (fun _ _ _ H=>eConj (((((m.undo.a.mul m.undo.b.conj).scale c.a).add ((c.b.mul m.undo.a).mul m.undo.d.conj)).add (((c.b.mul m.undo.b).conj).mul m.undo.c)).add ((m.undo.c.mul m.undo.d.conj).scale c.c)) (NumP.mk (H.f 48) (H.f 49)) (Nat.le_trans (Nat.add_le_add k13.1 k13.2) (by decide))) ?_
   refine Run.dr ?_
   refine RunD.cR spRat (fun _ _ _ H=>mtAt m.undo.a m.undo.c c (NumP.mk (H.f 12) (H.f 13)) (NumP.mk (H.f 16) (H.f 17)) (H.b 1) (RingP.mk (H.f 8) (H.f 9) (H.f 10) (H.f 11)) (Nat.le_trans (Nat.add_le_add (Nat.add_le_add (Nat.add_le_add p1.1.1 p1.1.2) p1.2.2.1.1) p1.2.2.1.2) (by decide)) p2) ?_
   refine RunD.cR spRat (fun _ _ _ H=>mtAt m.undo.b m.undo.d c (NumP.mk (H.f 14) (H.f 15)) (NumP.mk (H.f 18) (H.f 19)) (H.b 1) (RingP.mk (H.f 8) (H.f 9) (H.f 10) (H.f 11)) (Nat.le_trans (Nat.add_le_add (Nat.add_le_add (Nat.add_le_add p1.2.1.1 p1.2.1.2) p1.2.2.2.1) p1.2.2.2.2) (by decide)) p2) ?_
   refine RunD.cR spRing (fun _ _ _ H=>rgNorm (Ci.mk (c.at m.undo.a m.undo.c) ((((((m.undo.a.mul m.undo.b.conj).scale c.a).add ((c.b.mul m.undo.a).mul m.undo.d.conj)).add (((c.b.mul m.undo.b).conj).mul m.undo.c)).add ((m.undo.c.mul m.undo.d.conj).scale c.c)).conj) (c.at m.undo.b m.undo.d)) (RingP.mk (H.f 52) (H.f 50) (H.f 51) (H.f 53)) (Nat.le_trans (Nat.add_le_add (Nat.add_le_add (Nat.add_le_add k15 k14.1) k14.2) k16) (by decide)) (by first|exact imgF_1' p3 p4 c1|exact imgF_0' p3 p4 c1)) ?_
   refine RunD.en ?_
   exact Run.rR (fun _ _ _ H=>VPe (φ:=RingP) (imgE_1 c1) (RingP.mk (H.f 54) (H.f 55) (H.f 56) (H.f 57)))
 · refine Run.kn c1 ?_
   refine Run.dr ?_
   refine RunD.cR spRat (fun _ _ _ H=>mtAt m.undo.a m.undo.c c (NumP.mk (H.f 12) (H.f 13)) (NumP.mk (H.f 16) (H.f 17)) (H.b 1) (RingP.mk (H.f 8) (H.f 9) (H.f 10) (H.f 11)) (Nat.le_trans (Nat.add_le_add (Nat.add_le_add (Nat.add_le_add p1.1.1 p1.1.2) p1.2.2.1.1) p1.2.2.1.2) (by decide)) p2) ?_
   refine RunD.cR spRat (fun _ _ _ H=>mtAt m.undo.b m.undo.d c (NumP.mk (H.f 14) (H.f 15)) (NumP.mk (H.f 18) (H.f 19)) (H.b 1) (RingP.mk (H.f 8) (H.f 9) (H.f 10) (H.f 11)) (Nat.le_trans (Nat.add_le_add (Nat.add_le_add (Nat.add_le_add p1.2.1.1 p1.2.1.2) p1.2.2.2.1) p1.2.2.2.2) (by decide)) p2) ?_
   refine RunD.cR spRing (fun _ _ _ H=>rgNorm (Ci.mk (c.at m.undo.a m.undo.c) (((((m.undo.a.mul m.undo.b.conj).scale c.a).add ((c.b.mul m.undo.a).mul m.undo.d.conj)).add (((c.b.mul m.undo.b).conj).mul m.undo.c)).add ((m.undo.c.mul m.undo.d.conj).scale c.c)) (c.at m.undo.b m.undo.d)) (RingP.mk (H.f 50) (H.f 48) (H.f 49) (H.f 51)) (Nat.le_trans (Nat.add_le_add (Nat.add_le_add (Nat.add_le_add k15 k13.1) k13.2) k16) (by decide)) (by first|exact imgF_1' p3 p4 c1|exact imgF_0' p3 p4 c1)) ?_
   refine RunD.en ?_
   exact Run.rR (fun _ _ _ H=>VPe (φ:=RingP) (imgE_0 c1) (RingP.mk (H.f 52) (H.f 53) (H.f 54) (H.f 55)))
end Go.Proofs.YtcboejgklgnifaaGreat
namespace Go.Proofs.YtcboejgklgnifaaGreat.Eng
open Go.RowKit Rgn
section
variable {P:Program} {S:Nat→Prop} {W:World} {κ:List Value} {Φ:List VP} {Q:Exit→Act→World→Prop} {m:MS}
def aftNt(T:TypeId)(t:Bool)(m:MS):MS :=
 match m.cur with
 | .ops all (o::rest)=>{ m with cur:=.ops all rest,fr:=putF m.fr o.dst (some (.tup [.o (.p m.bl.length 0),.o (.c (.bool t))])),bl:=m.bl++[⟨T,[],true,some m.nv,true⟩],nv:=m.nv+1,sf:=m.nv::m.sf }
 | _=>m
theorem Run.cNt{f:FuncId}{args:(Nat→Nat)→(Nat→Value)→Array Value}{φ:VP}(T:TypeId)(t:Bool)(hφ:SoftV φ)(hO:OwnV φ)(hc:∀ {A:Nat→Prop} β ℓ w,Inv A S W κ Φ ⟨β,κ,ℓ⟩ (runM P far m).bl (runM P far m).sf w→Calls P f (args β ℓ) w (Ret (VP.tup φ (VP.is (.bool t))) (fun _=>False) w))(rest:Run P S W κ (Φ++[φ]) Q (aftNt T t (runM P far m)))(ha:∀ β ℓ,argsOf P (runM P far m) ⟨β,κ,ℓ⟩=some (f,(args β ℓ).toList):=by intro β ℓ;kernel_rfl)(hf:fitB (runM P far m) κ Φ=true:=by kernel_rfl):Run P S W κ Φ Q m :=
 run_sound far <| Run.mk fun A0 E a w I G=>by
  obtain⟨β,κ', ℓ⟩:=E
  have e:=I.ek
  simp only at e
  subst e
  generalize hm:runM P far m=n at *
  obtain⟨o,all,rst,hcur,hg,hx⟩:=call_enter (w:=w) (ha β ℓ) G
  have hn' : aftNt T t n={ n with cur:=.ops all rst,fr:=putF n.fr o.dst (some (.tup [.o (.p n.bl.length 0),.o (.c (.bool t))])),bl:=n.bl++[⟨T,[],true,some n.nv,true⟩],nv:=n.nv+1,sf:=n.nv::n.sf }:=by unfold aftNt;rw [hcur]
  rw [hn'] at rest
  rw [den_op hcur]
  refine wpList_step fun K hK=>?_
  rw [if_pos hg]
  simp only [Oper.wp,hx,Oper.upon]
  refine (hc β ℓ w I).mono fun e w' hr=>?_
  obtain⟨v,rfl,⟨v1,v2,rfl,h1,h3⟩,h2⟩:=hr
  have h3:v2=.bool t:=h3
  subst h3
  obtain⟨z,rfl,k1,k2,k3⟩:=hO h1
  have hz:w.heap.size≤z:=k1.resolve_left id
  obtain⟨I', sm⟩:=I.new (T:=T) hf h2 hz k2 k3 (hφ k3)
  have hf' := hf
  simp only [fitB,MS.okB,Bool.and_eq_true] at hf'
  have G' := G.same sm hf'.1.1.1
  have e2:(SV.tup [.o (.p n.bl.length 0),.o (.c (.bool t))]).d ⟨fun b=>if b=n.bl.length then z else β b,κ', fun q=>if q<n.nv then ℓ q else .pointer none⟩=.tuple #[.pointer (some ⟨z,0,none⟩),.bool t]:=by
   show Value.tuple #[.pointer (some ⟨if n.bl.length=n.bl.length then z else _,0,none⟩),.bool t]=_
   rw [if_pos rfl]
  have G2:=put_v G' o.dst (.tup [.o (.p n.bl.length 0),.o (.c (.bool t))])
  rw [e2] at G2
  exact hK _ _ (rest.r _ _ _ w' I' G2)
end
end Go.Proofs.YtcboejgklgnifaaGreat.Eng
namespace Go.Proofs.YtcboejgklgnifaaGreat
open Go.RowKit Rgn
variable {S:Nat→Prop} {W:World}
theorem eRoot{v0:Value}(q:Rat)(t0:(RatP q).p S v0 W)(p0:ht q≤8589934592)(p1:0≤q):Calls Tryz.prog 125 #[v0] W (Ret (VP.tup (RatP (rootQ q)) (VP.is (.bool (isSq q)))) Z0 W):=by
 obtain⟨b1,rfl,L1,F1⟩:=RatP.elim t0
 replace L1:Amb S W b1:=.inl L1
 have n0:=hi_num q
 have n1:=hi_den q
 have n2:=hi_isq q.num
 have n3:=hi_isq (q.den:Int)
 have n4:=Rat.num_nonneg.2 p1
 have n5:=rootQ_den q
 have n6:=ht_rootQ q
 have n7:=ht_mul (rootQ q) (rootQ q)
 have bel:=b0 W
 go_enter Tryz.func125,Tryz.ntmps125
 refine gs 2 (Amb S W) fun _ K2=>?_
 refine .mc rfl ?_
 refine .mc rfl ?_
 refine .dk (fun u=>pt b1::U::u 0::u 1::us 25) K2 bel fun u1 w1 D bel=>?_
 have E1_0:=D.q 0
 have E1_1:=D.q 1
 replace F1:=D.o L1 F1
 clear D
 refine wp_seq_k fun _ K3=>?_
 refine gs 3 (Amb S W) fun _ K4=>?_
 refine .mz rfl 0 (V:=pt b1) rfl ?_
 refine .cK rfl Tryz.func72 (fun H=>⟨_,ar1 (H.g 7 0),qSign _ (VP.any _ (H.was _ [] (VP.at F1 L1)))⟩) ?_
 refine .e rfl (V:=.bool false) (fun H=>x_cm (H.g 8 1) (H.c _) (sign_nn p1)) ?_
 refine .dk (fun u=>pt b1::U::u1 0::u1 1::U::U::U::sq u 0 3 (us 19)) K4 bel fun u2 w2 D bel=>?_
 have E2_2:=D.q 2
 replace F1:=D.o L1 F1
 clear D
 refine wp_cond_false (by exact E2_2) ?_
 refine wp_skip ?_
 refine K3 _ _ ?_
 refine gs 10 (Amb S W) fun _ K5=>?_
 refine .al rfl zI ?_
 refine .mz rfl 0 (V:=pt b1) rfl ?_
 refine .cR rfl [] Tryz.func198 (fun H=>⟨_,ar1 (H.g 11 1),qNum _ (H.was _ [] (VP.at F1 L1)) (by first|omega|exact Int.ne_of_gt n5|(show ht (rootQ q)+ht (rootQ q)≤_;omega)|(show ht (rootQ q*rootQ q)+ht q≤_;omega))⟩) ?_
 refine .cO rfl 0 Tryz.func202 (fun H h0 hz=>⟨_,ar2 (H.p 10 0 h0) (H.r 12 2),bSqrt (x:=_) (IntBlk.of hz) (IntO.p (SV.any (H.a 2 rfl))) (by first|omega|exact Int.ne_of_gt n5|(show ht (rootQ q)+ht (rootQ q)≤_;omega)|(show ht (rootQ q*rootQ q)+ht q≤_;omega)) (by first|omega|exact Int.ne_of_gt n5|(show ht (rootQ q)+ht (rootQ q)≤_;omega)|(show ht (rootQ q*rootQ q)+ht q≤_;omega))⟩) ?_
 refine .al rfl zI ?_
 refine .mz rfl 0 (V:=pt b1) rfl ?_
 refine .cR rfl [] Tryz.func199 (fun H=>⟨_,ar1 (H.g 15 5),qDenom _ (H.was _ [] (VP.at F1 L1)) (by first|omega|exact Int.ne_of_gt n5|(show ht (rootQ q)+ht (rootQ q)≤_;omega)|(show ht (rootQ q*rootQ q)+ht q≤_;omega))⟩) ?_
 refine .cO rfl 4 Tryz.func202 (fun H h0 hz=>⟨_,ar2 (H.p 14 4 h0) (H.r 16 6),bSqrt (x:=_) (IntBlk.of hz) (IntO.p (SV.any (H.a 6 rfl))) (by first|omega|exact Int.ne_of_gt n5|(show ht (rootQ q)+ht (rootQ q)≤_;omega)|(show ht (rootQ q*rootQ q)+ht q≤_;omega)) (by first|omega|exact Int.ne_of_gt n5|(show ht (rootQ q)+ht (rootQ q)≤_;omega)|(show ht (rootQ q*rootQ q)+ht q≤_;omega))⟩) ?_
 refine .mo rfl 3 ?_
 refine .mo rfl 7 ?_
 refine .dk (fun u=>pt b1::U::u1 0::u1 1::u 8::u 9::U::sq u2 0 3 (sq u 0 8 (us 11))) K5 bel fun u3 w3 D bel=>?_
 obtain⟨b6,E3_8,A6,F6⟩:=D.ow 8
 obtain⟨b7,E3_9,A7,F7⟩:=D.ow 9
 replace F1:=D.o L1 F1
 have L6:Amb S W b6:=.inr A6
 have L7:Amb S W b7:=.inr A7
 clear D
 refine gs 5 (Amb S W) fun _ K8=>?_
 refine .al rfl zQ ?_
 refine .mz rfl 4 E3_8 ?_
 refine .mz rfl 5 E3_9 ?_
 refine .cO rfl 0 Tryz.func197 (fun H h0 hz=>⟨_,ar3 (H.p 18 0 h0) (H.g 19 1) (H.g 20 2),qSetFrac _ _ (RatBlk.of hz) (IntO.p (VP.any _ (H.was _ [] (VP.at F6 L6)))) (IntO.p (VP.any _ (H.was _ [] (VP.at F7 L7)))) (by first|omega|exact Int.ne_of_gt n5|(show ht (rootQ q)+ht (rootQ q)≤_;omega)|(show ht (rootQ q*rootQ q)+ht q≤_;omega)) (by first|omega|exact Int.ne_of_gt n5|(show ht (rootQ q)+ht (rootQ q)≤_;omega)|(show ht (rootQ q*rootQ q)+ht q≤_;omega))⟩) ?_
 refine .mo rfl 3 ?_
 refine .dk (fun u=>pt b1::U::u1 0::u1 1::u3 8::u3 9::u 4::sq u2 0 3 (sq u3 0 8 (sq u 0 4 (us 7)))) K8 bel fun u4 w4 D bel=>?_
 obtain⟨b9,E4_4,A9,F9⟩:=D.ow 4
 replace F1:=D.o L1 F1
 have L9:Amb S W b9:=.inr A9
 clear D
 refine gs 9 (Amb S W) fun _ K10=>?_
 refine .mz rfl 6 E4_4 ?_
 refine .mz rfl 6 E4_4 ?_
 refine .mz rfl 6 E4_4 ?_
 refine .cR rfl [] Tryz.func172 (fun H=>⟨_,ar2 (H.g 23 1) (H.g 24 2),eMul _ _ (RatP.n (H.was _ [] (VP.at F9 L9))) (RatP.n (H.was _ [] (VP.at F9 L9))) (by first|omega|exact Int.ne_of_gt n5|(show ht (rootQ q)+ht (rootQ q)≤_;omega)|(show ht (rootQ q*rootQ q)+ht q≤_;omega))⟩) ?_
 refine .mz rfl 0 (V:=pt b1) rfl ?_
 refine .cK rfl Tryz.func73 (fun H=>⟨_,ar2 (H.r 25 3) (H.g 26 4),qCmp _ _ (SV.any (H.a 3 rfl)) (VP.any _ (H.was _ [] (VP.at F1 L1))) (by first|omega|exact Int.ne_of_gt n5|(show ht (rootQ q)+ht (rootQ q)≤_;omega)|(show ht (rootQ q*rootQ q)+ht q≤_;omega))⟩) ?_
 refine .e rfl (V:=.bool ((icmp (((Rat.divInt (isq q.num.natAbs:Int) (isq (q.den:Int).natAbs:Int))*(Rat.divInt (isq q.num.natAbs:Int) (isq (q.den:Int).natAbs:Int))).num*(q.den:Int)) (q.num*(((Rat.divInt (isq q.num.natAbs:Int) (isq (q.den:Int).natAbs:Int))*(Rat.divInt (isq q.num.natAbs:Int) (isq (q.den:Int).natAbs:Int))).den:Int))) == 0)) (fun H=>x_cmp (H.g 27 5) (H.c _)) ?_
 refine .mv rfl 0 ?_
 refine .mv rfl 6 ?_
 refine .dk (fun u=>pt b1::U::u 7::u 8::u3 8::u3 9::u4 4::sq u2 0 3 (sq u3 0 8 (sq u4 0 4 (sq u 0 7 [])))) K10 bel fun u5 w5 D bel=>?_
 have E5_7:=D.q 7
 have E5_8:=D.q 8
 replace F9:=D.o L9 F9
 clear D
 refine wp_ret ?_
 refine ret_ok rfl (by exact results_two rfl (by exact E5_7) (by exact E5_8)) ⟨_,rfl,?_,bel⟩
 exact⟨_,_,rfl,(VP.at F9 (Or.inr A9)),(congrArg Value.bool (root_b q))⟩
end Go.Proofs.YtcboejgklgnifaaGreat
namespace Go.Proofs.YtcboejgklgnifaaGreat
open Go.RowKit Rgn
section
variable {S:Nat→Prop} {W:World}
end
section
variable {ops:Array Oper} {a0:Act} {w0:World} {R0:Nat→Prop} {olds:List (Nat×Nat)} {F:List (Pl w0.heap.size R0 olds)→Prop} {k i:Nat} {rp:List (Nat×Pl w0.heap.size R0 olds)} {o:Oper}
theorem mag_one(w:World):Mag (w.alloc (.cells #[.int .u32 1] 280)) (.slice (some ⟨w.heap.size,0,none⟩) 1 1) 1:=by
 have h:=(Blk.alloc w [1]).all (cap:=1) (by intro x hx;simp at hx;subst hx;decide) (by decide) (by decide)
 refine⟨[1],by exact h,by simp [Canon],by simp [val]⟩
theorem Rgn.Go2.m1(ho:ops[i]? = some o)(rest:Go2 Tryz.prog ops a0 w0 F k (i+1) ((i,.op none (.val i [] (MagP 1)))::rp))(hop:o.op=.buildSlice 189 1 #[(0,.const (.int .u32 1))]:=by rfl)(hg:Gd2 ops a0 w0 rp i o:=by exact G0 rfl):Go2 Tryz.prog ops a0 w0 F (k+1) i rp :=
 Go2.gR ho [] hg rfl (fun {u w ρ} H=>by
  exact⟨_,_,ex_bs (P:=Tryz.prog) (e:=280) (sz:=1) [.int .u32 1] hop (by simp [H.c]) (by intro v hv;simp at hv;subst hv;rfl) rfl (by kernel_rfl) (by kernel_rfl) (by decide) (by decide) (by decide),mag_one w,RowKit.Below.alloc (RowKit.Below.refl _ _) (Nat.le_refl _) _⟩) rest
end
end Go.Proofs.YtcboejgklgnifaaGreat
namespace Go.Proofs.YtcboejgklgnifaaGreat
open Go.RowKit Rgn Eng
variable {S:Nat→Prop} {W:World}
theorem eRootY{v0:Value}(q:Rat)(t0:(RatP q).p S v0 W)(p0:ht q≤8589934592)(p1:0≤q)(p2:isSq q=true):Calls Tryz.prog 125 #[v0] W (Ret (VP.tup (RatP (rootQ q)) (VP.is (.bool true))) Z0 W):=by
 have h:=eRoot q t0 p0 p1
 rwa [p2] at h
theorem eRootN{v0:Value}(q:Rat)(t0:(RatP q).p S v0 W)(p0:ht q≤8589934592)(p1:0≤q)(p2:isSq q=false):Calls Tryz.prog 125 #[v0] W (Ret (VP.tup (RatP (rootQ q)) (VP.is (.bool false))) Z0 W):=by
 have h:=eRoot q t0 p0 p1
 rwa [p2] at h
theorem dsExt{v0:Value}(d:Ci)(t0:(RingP d).p S v0 W)(p0:ht d.a+ht d.b.re+ht d.b.im+ht d.c≤40000):Calls Tryz.prog 152 #[v0] W (Ret (PlaceP d.ext) S W):=by
 obtain⟨ea,eb,ec⟩:=hb_ci p0
 have k0:=HB.scale eb (hb_inv ea) 80000
 have k1:=hb_add (Nat.le_trans (Nat.le_of_eq (ht_rabs d.c)) ec) (by decide:ht (Rat.divInt (1) (1))≤3) 40003
 have k2:=HB.mul (HB.two (z:=Cx.mk d.b.im 0) eb.2 (Nat.le_of_eq ht_zero) 40000) (⟨by decide,by decide⟩:HB (Cx.ofInt (0) (1)) 3) 80006
 have k3:=HB.add (HB.two (z:=Cx.mk d.b.re 0) eb.1 (Nat.le_of_eq ht_zero) 40000) k2 120006
 have k4:=hb_neg k1
 have k5:=HB.scale k3 k4 160009
 refine Run.goP (S:=S) (Pack.nil.s spRing t0) Tryz.func152 rfl ?_
 refine Run.cR spNum (fun _ _ _ H=>eInt 0 0 (by decide) (by decide) (by decide) (by decide)) ?_
 refine Run.un 0 (by decide) ?_
 refine Run.cR spNum (fun _ _ _ H=>eInt (-0) 0 (by decide) (by decide) (by decide) (by decide)) ?_
 refine Run.cR spNum (fun _ _ _ H=>eInt 0 0 (by decide) (by decide) (by decide) (by decide)) ?_
 refine Run.un 0 (by decide) ?_
 refine Run.cR spNum (fun _ _ _ H=>eInt 0 (-0) (by decide) (by decide) (by decide) (by decide)) ?_
 refine Run.dr ?_
 refine RunD.cR spRing (fun _ _ _ H=>dsRim d (RingP.mk (H.f 0) (H.f 1) (H.f 2) (H.f 3)) (Nat.le_trans (Nat.add_le_add (Nat.add_le_add (Nat.add_le_add ea eb.1) eb.2) ec) (by decide))) ?_
 refine RunD.cV [.int .i64 (d.rim.side (Pn.mk false (Cx.ofInt 0 0)))] kb (fun _ _ _ H=>rgSide d.rim (Pn.mk false (Cx.ofInt 0 0)) (RingP.mk (H.f 12) (H.f 13) (H.f 14) (H.f 15)) (PlaceP.mk (H.f 4) (H.f 5)) (Nat.le_trans (Nat.add_le_add (Nat.add_le_add (Nat.add_le_add (Nat.add_le_add ea (HB.neg (HB.conj eb)).1) (HB.neg (HB.conj eb)).2) ec) (Nat.add_le_add (⟨by decide,by decide⟩:HB (Cx.ofInt (0) (0)) 2).1 (⟨by decide,by decide⟩:HB (Cx.ofInt (0) (0)) 2).2)) (by decide))) ?_
 refine RunD.bi [.bool (decide (0<(d.rim.side (Pn.mk false (Cx.ofInt 0 0)))))] kb (fun _ _ _ o1 o2 _ ho hx hy=>ex_icmp .gtr 3 (d.rim.side (Pn.mk false (Cx.ofInt 0 0))) 0 (kk:=.i64) rfl ho hx hy) ?_
 refine RunD.en ?_
 refine (Bool.eq_false_or_eq_true (decide (0<(d.rim.side (Pn.mk false (Cx.ofInt 0 0)))))).elim (fun c1=>?_) (fun c1=>?_)
 · refine Run.kn c1 ?_
   exact Run.rR (fun _ _ _ H=>VPe (φ:=PlaceP) (ext_0 c1) (PlaceP.mk (H.f 4) (H.f 5)))
 · refine Run.kn c1 ?_
   refine Run.dr ?_
   refine RunD.cR spRing (fun _ _ _ H=>dsRim d (RingP.mk (H.f 0) (H.f 1) (H.f 2) (H.f 3)) (Nat.le_trans (Nat.add_le_add (Nat.add_le_add (Nat.add_le_add ea eb.1) eb.2) ec) (by decide))) ?_
   refine RunD.cV [.int .i64 (d.rim.side (Pn.mk false (Cx.ofInt (-0) 0)))] kb (fun _ _ _ H=>rgSide d.rim (Pn.mk false (Cx.ofInt (-0) 0)) (RingP.mk (H.f 16) (H.f 17) (H.f 18) (H.f 19)) (PlaceP.mk (H.f 6) (H.f 7)) (Nat.le_trans (Nat.add_le_add (Nat.add_le_add (Nat.add_le_add (Nat.add_le_add ea (HB.neg (HB.conj eb)).1) (HB.neg (HB.conj eb)).2) ec) (Nat.add_le_add (⟨by decide,by decide⟩:HB (Cx.ofInt (-0) (0)) 2).1 (⟨by decide,by decide⟩:HB (Cx.ofInt (-0) (0)) 2).2)) (by decide))) ?_
   refine RunD.bi [] (cb false) (fun _ _ _ o1 o2 _ ho hx hy=>ex_icmp .gtr 3 (d.rim.side (Pn.mk false (Cx.ofInt (-0) 0))) 0 (kk:=.i64) rfl ho hx hy) ?_ (hV:=fun _ _=>congrArg Value.bool (ext_z c1))
   refine RunD.en ?_
   refine Run.dr ?_
   refine RunD.cR spRing (fun _ _ _ H=>dsRim d (RingP.mk (H.f 0) (H.f 1) (H.f 2) (H.f 3)) (Nat.le_trans (Nat.add_le_add (Nat.add_le_add (Nat.add_le_add ea eb.1) eb.2) ec) (by decide))) ?_
   refine RunD.cV [.int .i64 (d.rim.side (Pn.mk false (Cx.ofInt 0 0)))] kb (fun _ _ _ H=>rgSide d.rim (Pn.mk false (Cx.ofInt 0 0)) (RingP.mk (H.f 20) (H.f 21) (H.f 22) (H.f 23)) (PlaceP.mk (H.f 8) (H.f 9)) (Nat.le_trans (Nat.add_le_add (Nat.add_le_add (Nat.add_le_add (Nat.add_le_add ea (HB.neg (HB.conj eb)).1) (HB.neg (HB.conj eb)).2) ec) (Nat.add_le_add (⟨by decide,by decide⟩:HB (Cx.ofInt (0) (0)) 2).1 (⟨by decide,by decide⟩:HB (Cx.ofInt (0) (0)) 2).2)) (by decide))) ?_
   refine RunD.bi [] (cb false) (fun _ _ _ o1 o2 _ ho hx hy=>ex_icmp .gtr 3 (d.rim.side (Pn.mk false (Cx.ofInt 0 0))) 0 (kk:=.i64) rfl ho hx hy) ?_ (hV:=fun _ _=>congrArg Value.bool c1)
   refine RunD.en ?_
   refine Run.dr ?_
   refine RunD.cR spRing (fun _ _ _ H=>dsRim d (RingP.mk (H.f 0) (H.f 1) (H.f 2) (H.f 3)) (Nat.le_trans (Nat.add_le_add (Nat.add_le_add (Nat.add_le_add ea eb.1) eb.2) ec) (by decide))) ?_
   refine RunD.cV [.int .i64 (d.rim.side (Pn.mk false (Cx.ofInt 0 (-0))))] kb (fun _ _ _ H=>rgSide d.rim (Pn.mk false (Cx.ofInt 0 (-0))) (RingP.mk (H.f 24) (H.f 25) (H.f 26) (H.f 27)) (PlaceP.mk (H.f 10) (H.f 11)) (Nat.le_trans (Nat.add_le_add (Nat.add_le_add (Nat.add_le_add (Nat.add_le_add ea (HB.neg (HB.conj eb)).1) (HB.neg (HB.conj eb)).2) ec) (Nat.add_le_add (⟨by decide,by decide⟩:HB (Cx.ofInt (0) (-0)) 2).1 (⟨by decide,by decide⟩:HB (Cx.ofInt (0) (-0)) 2).2)) (by decide))) ?_
   refine RunD.bi [] (cb false) (fun _ _ _ o1 o2 _ ho hx hy=>ex_icmp .gtr 3 (d.rim.side (Pn.mk false (Cx.ofInt 0 (-0)))) 0 (kk:=.i64) rfl ho hx hy) ?_ (hV:=fun _ _=>congrArg Value.bool (ext_y c1))
   refine RunD.en ?_
   refine Run.dr ?_
   refine RunD.cR spRing (fun _ _ _ H=>dsRim d (RingP.mk (H.f 0) (H.f 1) (H.f 2) (H.f 3)) (Nat.le_trans (Nat.add_le_add (Nat.add_le_add (Nat.add_le_add ea eb.1) eb.2) ec) (by decide))) ?_
   refine RunD.cV [.int .i64 (d.rim.side (Pn.mk true (Cx.mk 0 0)))] kb (fun _ _ _ H=>rgSide d.rim (Pn.mk true (Cx.mk 0 0)) (RingP.mk (H.f 28) (H.f 29) (H.f 30) (H.f 31)) (PlaceP.mk (RatN.nil rfl) (RatN.nil rfl)) (Nat.le_trans (Nat.add_le_add (Nat.add_le_add (Nat.add_le_add (Nat.add_le_add ea (HB.neg (HB.conj eb)).1) (HB.neg (HB.conj eb)).2) ec) (Nat.add_le_add (Nat.le_of_eq ht_zero) (Nat.le_of_eq ht_zero))) (by decide))) ?_
   refine RunD.bi [.bool (decide (0<(d.rim.side (Pn.mk true (Cx.mk 0 0)))))] kb (fun _ _ _ o1 o2 _ ho hx hy=>ex_icmp .gtr 3 (d.rim.side (Pn.mk true (Cx.mk 0 0))) 0 (kk:=.i64) rfl ho hx hy) ?_
   refine RunD.en ?_
   refine (Bool.eq_false_or_eq_true (decide (0<(d.rim.side (Pn.mk true (Cx.mk 0 0)))))).elim (fun c2=>?_) (fun c2=>?_)
   · refine Run.kn c2 ?_
     exact Run.rR (fun _ _ _ H=>VPe (φ:=PlaceP) (ext_1 c1 c2) (PlaceP.mk (RatN.nil rfl) (RatN.nil rfl)))
   · refine Run.kn c2 ?_
     refine Run.cV [.int .i64 d.a.num.sign] kb (fun _ _ _ H=>qSign d.a (H.f 0)) ?_
     refine Run.ic d.a.num.sign 0 (decide (d.a.num.sign<0)) ?_
     refine (Bool.eq_false_or_eq_true (decide (d.a.num.sign<0))).elim (fun c3=>?_) (fun c3=>?_)
     · refine Run.kn c3 ?_
       refine Run.dr ?_
       refine RunD.cO 12 softRat (fun _ _ _ H=>qInv d.a (RatP.blk (H.oz 12)) (anyV (H.f 0)) (Nat.le_trans ea (by decide)) (by exact ext_nz c3)) ?_
       refine RunD.cRs [12] spNum (fun _ _ _ H=>eScale d.b (d.a⁻¹) (NumP.mk (H.f 1) (H.f 2)) (RatP.n (H.s 12)) (Nat.le_trans (Nat.add_le_add (Nat.add_le_add eb.1 eb.2) (hb_inv ea)) (by decide))) ?_
       refine RunD.en ?_
       exact Run.rR (fun _ _ _ H=>VPe (φ:=PlaceP) (ext_2 c1 c2 c3) (PlaceP.mk (H.f 33) (H.f 34)))
     · refine Run.kn c3 ?_
       refine Run.cV [.int .i64 d.a.num.sign] kb (fun _ _ _ H=>qSign d.a (H.f 0)) ?_
       refine Run.ic d.a.num.sign 0 (d.a.num.sign == 0) ?_
       refine Run.kn (ext_k c2 c3) ?_
       refine Run.cR sp2Rat (fun _ _ _ H=>eParts d.b (NumP.mk (H.f 1) (H.f 2))) ?_
       refine Run.cO 13 softRat (fun _ _ _ H=>qAbs d.c (RatP.blk (H.oz 13)) (anyV (H.f 3)) (Nat.le_trans ec (by decide))) ?_
       refine Run.cR spRat (fun _ _ _ H=>qNewRat 1 1 (by decide) (by decide) (by decide) (by decide) (by decide)) ?_
       refine Run.cO 12 softRat (fun _ _ _ H=>qAdd (rabs d.c) (Rat.divInt 1 1) (RatP.blk (H.oz 12)) (anyV (H.o 13)) (anyV (H.f 35)) (Nat.le_trans (Nat.add_le_add (Nat.le_trans (Nat.le_of_eq (ht_rabs d.c)) ec) (by decide:ht (Rat.divInt (1) (1))≤3)) (by decide))) ?_
       refine Run.cR spNum (fun _ _ _ H=>eReal d.b.re (H.f 32)) ?_
       refine Run.cR spNum (fun _ _ _ H=>eReal d.b.im (H.f 33)) ?_
       refine Run.cR spNum (fun _ _ _ H=>eInt 0 1 (by decide) (by decide) (by decide) (by decide)) ?_
       refine Run.cR spNum (fun _ _ _ H=>eNMul (Cx.mk d.b.im 0) (Cx.ofInt 0 1) (NumP.mk (H.f 39) (H.f 40)) (NumP.mk (H.f 41) (H.f 42)) (Nat.le_trans (Nat.add_le_add (Nat.add_le_add (Nat.add_le_add eb.2 (Nat.le_of_eq ht_zero)) (⟨by decide,by decide⟩:HB (Cx.ofInt (0) (1)) 3).1) (⟨by decide,by decide⟩:HB (Cx.ofInt (0) (1)) 3).2) (by decide))) ?_
       refine Run.cR spNum (fun _ _ _ H=>eAdd (Cx.mk d.b.re 0) ((Cx.mk d.b.im 0).mul (Cx.ofInt 0 1)) (NumP.mk (H.f 37) (H.f 38)) (NumP.mk (H.f 43) (H.f 44)) (Nat.le_trans (Nat.add_le_add (Nat.add_le_add (Nat.add_le_add eb.1 (Nat.le_of_eq ht_zero)) k2.1) k2.2) (by decide))) ?_
       refine Run.cO 12 softRat (fun _ _ _ H=>qNeg ((rabs d.c)+(Rat.divInt 1 1)) (RatP.blk (q:=(rabs d.c)+(Rat.divInt 1 1)) (H.o 12)) (anyV (H.o 12)) (Nat.le_trans k1 (by decide))) ?_
       refine Run.se 12 ?_
       refine Run.cR spNum (fun _ _ _ H=>eScale ((Cx.mk d.b.re 0).add ((Cx.mk d.b.im 0).mul (Cx.ofInt 0 1))) (-((rabs d.c)+(Rat.divInt 1 1))) (NumP.mk (H.f 45) (H.f 46)) (RatP.n (H.s 12)) (Nat.le_trans (Nat.add_le_add (Nat.add_le_add k3.1 k3.2) k4) (by decide))) ?_
       exact Run.rR (fun _ _ _ H=>VPe (φ:=PlaceP) (ext_3 c1 c2 c3) (PlaceP.mk (H.f 48) (H.f 49)))
end Go.Proofs.YtcboejgklgnifaaGreat
namespace Go.Proofs.YtcboejgklgnifaaGreat
open Go.RowKit Rgn
theorem matJ0{S:Nat→Prop}{w:World}:(MatJ 0).p S (.agg #[.pointer none,.pointer none,.pointer none,.pointer none,.pointer none,.pointer none,.pointer none,.pointer none,.bool false]) w :=
 ⟨_,_,_,_,_,_,_,_,_,rfl,⟨_,rfl⟩,⟨_,rfl⟩,⟨_,rfl⟩,⟨_,rfl⟩,⟨_,rfl⟩,⟨_,rfl⟩,⟨_,rfl⟩,⟨_,rfl⟩,rfl⟩
theorem eOpenO{S:Nat→Prop}{W:World}(m:Mb)(p0:mbOk (rmb m)=true):Calls Tryz.prog 146 #[mbV m] W (Ret (VP.tup (MatP m) (VP.is (.bool true))) S W):=by
 obtain⟨h1,h2,h3⟩:=mbOk_c p0
 obtain⟨k1,k2,k3,k4⟩:=and_4 h1
 have hg:(gmay (rg m.a)&&gmay (rg m.b)&&gmay (rg m.c)&&gmay (rg m.d))=true:=by rw [gmay_rg,gmay_rg,gmay_rg,gmay_rg];exact h1
 have e:mvm (rmb m)=m:=mvm_rmb hg
 have h:=eOpenR (S:=S) (W:=W) (rmb m)
 refine h.mono fun _ _ h=>?_
 have h5:=h.2.2 ⟨hg,by show (mvm (rmb m)).det.zero=false;rw [e];exact h2⟩
 rw [e,h3] at h5
 exact h5
theorem eOpenN{S:Nat→Prop}{W:World}(r:RMb)(p0:mbOk r=false):Calls Tryz.prog 146 #[rmbV r] W (Ret (VP.tup (MatJ 0) (VP.is (.bool false))) S W):=by
 have h:=eOpenR (S:=S) (W:=W) r
 have toV:∀ {e w'},RetV (.tuple #[.agg #[.pointer none,.pointer none,.pointer none,.pointer none,.pointer none,.pointer none,.pointer none,.pointer none,.bool false],.bool false]) W e w'→Ret (VP.tup (MatJ 0) (VP.is (.bool false))) S W e w' := fun h=>by
  obtain⟨h1,h2⟩:=h.is
  exact⟨_,h1,⟨_,_,rfl,matJ0,rfl⟩,h2⟩
 refine h.mono fun e w' h=>?_
 cases hg:(gmay r.a&&gmay r.b&&gmay r.c&&gmay r.d) with
 | false=>exact toV (h.1 hg)
 | true =>
  obtain⟨m,rfl,hf⟩:=mb_of hg
  have em:mvm (rmb m)=m:=mvm_rmb hg
  cases hz:(mvm (rmb m)).det.zero with
  | true=>exact toV (h.2.1 ⟨hg,hz⟩)
  | false =>
   have h5:=h.2.2 ⟨hg,hz⟩
   obtain⟨v,h6,⟨a,b,h7,h8,h9⟩,h10⟩:=h5
   have hb:b=.bool false:=by
    rw [h9]
    cases hm:(mvm (rmb m)).form with
    | false=>rfl
    | true=>exact absurd ⟨m,rfl,hf,em ▸ hz,em ▸ hm⟩ (mbOk_no p0)
   exact⟨v,h6,⟨a,b,h7,MatP.j h8,hb⟩,h10⟩
end Go.Proofs.YtcboejgklgnifaaGreat
namespace Go.Proofs.YtcboejgklgnifaaGreat
open Go.RowKit Rgn Eng
variable {S:Nat→Prop} {W:World}
theorem imN2(m:RMb)(d:Ci)(p0:mbOk m=false)(p1:dsOk (rci d)=true):Calls Tryz.prog 52 #[rmbV m,ciV d] W (RetV (.tuple #[rciV rzCi,.int .i64 2]) W):=by
 refine Run.goP (S:=Z0) ((Pack.nil.k (rmbV m) (rmbC m).toList (.s (.agg (ks 0 33)))).k (ciV d) (ciC d).toList (.s (.agg (ks 0 16)))) Tryz.func52 rfl ?_
 refine Run.cR (spMatJC false) (fun _ _ _ H=>eOpenN m p0) ?_
 refine Run.cR (spRingC true) (fun _ _ _ H=>ePlateO d p1) ?_
 exact Run.rV rfl
theorem imS(m:Mb)(d:Ci)(p0:mbOk (rmb m)=true)(p1:dsOk (rci d)=true)(p2:isSq m.det.norm=false):Calls Tryz.prog 52 #[mbV m,ciV d] W (RetV (.tuple #[rciV rzCi,.int .i64 7]) W):=by
 have e5:=det_hbL (mb_l20 p0)
 obtain⟨a1,a2,a3,a4⟩:=hb_mb (mb_l20 p0)
 have k0:=HB.norm e5 800000
 refine Run.goP (S:=Z0) ((Pack.nil.k (mbV m) (mbC m).toList (.s (.agg (ks 0 33)))).k (ciV d) (ciC d).toList (.s (.agg (ks 0 16)))) Tryz.func52 rfl ?_
 refine Run.cR (spMatC true) (fun _ _ _ H=>eOpenO m p0) ?_
 refine Run.cR (spRingC true) (fun _ _ _ H=>ePlateO d p1) ?_
 refine Run.cR spNum (fun _ _ _ H=>mtDet m (MatP.mk (H.f 0) (H.f 1) (H.f 2) (H.f 3) (H.f 4) (H.f 5) (H.f 6) (H.f 7)) (Nat.le_trans (Nat.add_le_add (Nat.add_le_add (Nat.add_le_add (Nat.add_le_add (Nat.add_le_add (Nat.add_le_add (Nat.add_le_add a1.1 a1.2) a2.1) a2.2) a3.1) a3.2) a4.1) a4.2) (by decide))) ?_
 refine Run.cR spRat (fun _ _ _ H=>eNorm m.det (NumP.mk (H.f 12) (H.f 13)) (Nat.le_trans (Nat.add_le_add e5.1 e5.2) (by decide))) ?_
 refine Run.cNt 193 false softRat ownRat (fun _ _ _ H=>eRootN m.det.norm (H.f 14) (Nat.le_trans k0 (by decide)) (by exact Rat.le_of_lt (det_nn (mbOk_c p0).2.1)) p2) ?_
 exact Run.rV rfl
theorem imY(m:Mb)(d:Ci)(p0:mbOk (rmb m)=true)(p1:dsOk (rci d)=true)(p2:isSq m.det.norm=true)(p3:ht m.a.re+ht m.a.im+ht m.b.re+ht m.b.im+ht m.c.re+ht m.c.im+ht m.d.re+ht m.d.im≤4000)(p4:ht d.a+ht d.b.re+ht d.b.im+ht d.c≤2000):Calls Tryz.prog 52 #[mbV m,ciV d] W (RetV (.tuple #[rciV (cicut (m.dsI d)),.int .i64 (cierr (m.dsI d))]) W):=by
 obtain⟨a1,a2,a3⟩:=rgm_hb p3 p4
 obtain⟨b1,b2,b3⟩:=dsP_hb p3 p4
 obtain⟨e1,e2,e3⟩:=hb_ci p4
 have e4:=ext_hb p4
 have e5:=det_hbL p3
 have e6:=send_hb p3 p4
 obtain⟨d1,d2,d3⟩:=mbOk_c p0
 have d4:=(dsOk_c p1).2
 have k0:=HB.norm e5 16000
 have k1:=HB.neg a2.conj
 refine Run.goP (S:=Z0) ((Pack.nil.k (mbV m) (mbC m).toList (.s (.agg (ks 0 33)))).k (ciV d) (ciC d).toList (.s (.agg (ks 0 16)))) Tryz.func52 rfl ?_
 refine Run.cR (spMatC true) (fun _ _ _ H=>eOpenO m p0) ?_
 refine Run.cR (spRingC true) (fun _ _ _ H=>ePlateO d p1) ?_
 refine Run.cR spNum (fun _ _ _ H=>mtDet m (MatP.mk (H.f 0) (H.f 1) (H.f 2) (H.f 3) (H.f 4) (H.f 5) (H.f 6) (H.f 7)) (Nat.le_trans (Nat.add_le_add (Nat.add_le_add (Nat.add_le_add (Nat.add_le_add (Nat.add_le_add (Nat.add_le_add (Nat.add_le_add (hb_mb p3).1.1 (hb_mb p3).1.2) (hb_mb p3).2.1.1) (hb_mb p3).2.1.2) (hb_mb p3).2.2.1.1) (hb_mb p3).2.2.1.2) (hb_mb p3).2.2.2.1) (hb_mb p3).2.2.2.2) (by decide))) ?_
 refine Run.cR spRat (fun _ _ _ H=>eNorm m.det (NumP.mk (H.f 12) (H.f 13)) (Nat.le_trans (Nat.add_le_add e5.1 e5.2) (by decide))) ?_
 refine Run.cNt 193 true softRat ownRat (fun _ _ _ H=>eRootY m.det.norm (H.f 14) (Nat.le_trans k0 (by decide)) (by exact Rat.le_of_lt (det_nn d2)) p2) ?_
 refine Run.dr ?_
 refine RunD.cR spRing (fun _ _ _ H=>dsRim d (RingP.mk (H.f 8) (H.f 9) (H.f 10) (H.f 11)) (Nat.le_trans (Nat.add_le_add (Nat.add_le_add (Nat.add_le_add e1 e2.1) e2.2) e3) (by decide))) ?_
 refine RunD.cR spRing (fun _ _ _ H=>mtImg m d.rim (MatP.mk (H.f 0) (H.f 1) (H.f 2) (H.f 3) (H.f 4) (H.f 5) (H.f 6) (H.f 7)) (RingP.mk (H.f 16) (H.f 17) (H.f 18) (H.f 19)) (Nat.le_trans (Nat.add_le_add (Nat.add_le_add (Nat.add_le_add (Nat.add_le_add (Nat.add_le_add (Nat.add_le_add (Nat.add_le_add (hb_mb p3).1.1 (hb_mb p3).1.2) (hb_mb p3).2.1.1) (hb_mb p3).2.1.2) (hb_mb p3).2.2.1.1) (hb_mb p3).2.2.1.2) (hb_mb p3).2.2.2.1) (hb_mb p3).2.2.2.2) (by decide)) (by exact mb_ub p3) (Nat.le_trans (Nat.add_le_add (Nat.add_le_add (Nat.add_le_add e1 e2.conj.neg.1) e2.conj.neg.2) e3) (by decide)) (by exact d2) (by exact rim_pos p1)) ?_
 refine RunD.en ?_
 refine Run.cR spRat (fun _ _ _ H=>rgPow (m.rgm d) (RingP.mk (H.f 20) (H.f 21) (H.f 22) (H.f 23)) (Nat.le_trans (Nat.add_le_add (Nat.add_le_add (Nat.add_le_add a1 a2.1) a2.2) a3) (by decide))) ?_
 refine Run.cNt 193 true softRat ownRat (fun _ _ _ H=>eRootY ((m.rgm d).pow) (H.f 24) (Nat.le_trans (pow_hb a1 a2 a3) (by decide)) (by exact rgm_nn d2 d4) (by exact rgm_sq d2 d4 p2)) ?_
 refine Run.dr ?_
 refine RunD.cR spNum (fun _ _ _ H=>eConj ((m.rgm d).b) (NumP.mk (H.f 21) (H.f 22)) (Nat.le_trans (Nat.add_le_add a2.1 a2.2) (by decide))) ?_
 refine RunD.cR spNum (fun _ _ _ H=>eNeg (((m.rgm d).b).conj) (NumP.mk (H.f 26) (H.f 27)) (Nat.le_trans (Nat.add_le_add a2.conj.1 a2.conj.2) (by decide))) ?_
 refine RunD.cO 7 softRat (fun _ _ _ H=>qInv (rootQ ((m.rgm d).pow)) (RatP.blk (q:=rootQ ((m.rgm d).pow)) (H.o 7)) (anyV (H.o 7)) (Nat.le_trans (hb_root (pow_hb a1 a2 a3)) (by decide)) (by exact rgm_ne d2 d4 p2)) ?_
 refine RunD.cRs [7] spRing (fun _ _ _ H=>dsTimes ((m.rgm d).rim) ((rootQ ((m.rgm d).pow))⁻¹) (RingP.mk (H.f 20) (H.f 28) (H.f 29) (H.f 23)) (H.s 7) (Nat.le_trans (Nat.add_le_add (Nat.add_le_add (Nat.add_le_add (Nat.add_le_add a1 a2.conj.neg.1) a2.conj.neg.2) a3) (hb_inv (hb_root (pow_hb a1 a2 a3)))) (by decide))) ?_
 refine RunD.en ?_
 refine Run.dr ?_
 refine RunD.cR spRing (fun _ _ _ H=>dsRim (m.dsP d) (RingP.mk (H.f 31) (H.f 32) (H.f 33) (H.f 34)) (Nat.le_trans (Nat.add_le_add (Nat.add_le_add (Nat.add_le_add b1 b2.1) b2.2) b3) (by decide))) ?_
 refine RunD.cR spPlace (fun _ _ _ H=>dsExt d (RingP.mk (H.f 8) (H.f 9) (H.f 10) (H.f 11)) (Nat.le_trans (Nat.add_le_add (Nat.add_le_add (Nat.add_le_add e1 e2.1) e2.2) e3) (by decide))) ?_
 refine RunD.cR spPlace (fun _ _ _ H=>mtSend m d.ext (MatP.mk (H.f 0) (H.f 1) (H.f 2) (H.f 3) (H.f 4) (H.f 5) (H.f 6) (H.f 7)) (PlaceP.mk (H.f 39) (H.f 40)) (Nat.le_trans (Nat.add_le_add (Nat.add_le_add (Nat.add_le_add (Nat.add_le_add (Nat.add_le_add (Nat.add_le_add (Nat.add_le_add (Nat.add_le_add (hb_mb p3).1.1 (hb_mb p3).1.2) (hb_mb p3).2.1.1) (hb_mb p3).2.1.2) (hb_mb p3).2.2.1.1) (hb_mb p3).2.2.1.2) (hb_mb p3).2.2.2.1) (hb_mb p3).2.2.2.2) (Nat.add_le_add e4.1 e4.2)) (by decide))) ?_
 refine RunD.cV [.int .i64 (((m.dsP d).rim).side (m.send d.ext))] kb (fun _ _ _ H=>rgSide ((m.dsP d).rim) (m.send d.ext) (RingP.mk (H.f 35) (H.f 36) (H.f 37) (H.f 38)) (PlaceP.mk (H.f 41) (H.f 42)) (Nat.le_trans (Nat.add_le_add (Nat.add_le_add (Nat.add_le_add (Nat.add_le_add b1 b2.conj.neg.1) b2.conj.neg.2) b3) (Nat.add_le_add e6.1 e6.2)) (by decide))) ?_
 refine RunD.bi [.bool (decide ((((m.dsP d).rim).side (m.send d.ext))<0))] kb (fun _ _ _ o1 o2 _ ho hx hy=>ex_icmp .lss 3 (((m.dsP d).rim).side (m.send d.ext)) 0 (kk:=.i64) rfl ho hx hy) ?_
 refine RunD.en ?_
 refine (Bool.eq_false_or_eq_true (decide ((((m.dsP d).rim).side (m.send d.ext))<0))).elim (fun c1=>?_) (fun c1=>?_)
 · refine Run.kn c1 ?_
   refine Run.cR spRing (fun _ _ _ H=>dsOut (m.dsP d) (RingP.mk (H.f 31) (H.f 32) (H.f 33) (H.f 34)) (Nat.le_trans (Nat.add_le_add (Nat.add_le_add (Nat.add_le_add b1 b2.1) b2.2) b3) (by decide))) ?_
   refine Run.cV ((rciC (cicut ((m.dsP d).out))).toList++[.int .i64 (cierr ((m.dsP d).out))]) (.tup [.agg (ks 0 16),.o (.k 16)]) (fun _ _ _ H=>dsTold ((m.dsP d).out) (RingP.mk (H.f 43) (H.f 44) (H.f 45) (H.f 46)) (Nat.le_trans (Nat.add_le_add (Nat.add_le_add (Nat.add_le_add (hb_neg b1) b2.neg.1) b2.neg.2) (hb_neg b3)) (by decide))) ?_
   exact Run.rV (im_vT d2 d4 p2 c1)
 · refine Run.kn c1 ?_
   refine Run.cV ((rciC (cicut (m.dsP d))).toList++[.int .i64 (cierr (m.dsP d))]) (.tup [.agg (ks 0 16),.o (.k 16)]) (fun _ _ _ H=>dsTold (m.dsP d) (RingP.mk (H.f 31) (H.f 32) (H.f 33) (H.f 34)) (Nat.le_trans (Nat.add_le_add (Nat.add_le_add (Nat.add_le_add b1 b2.1) b2.2) b3) (by decide))) ?_
   exact Run.rV (im_vF d2 d4 p2 c1)
end Go.Proofs.YtcboejgklgnifaaGreat
namespace Go.Proofs.YtcboejgklgnifaaGreat
def okL(l:List Int):Bool:=l.all fun x=>!(x != 0)
theorem out_ok{a:Ci}(p:dsOk (rci a)=true):dsOk (rci a.out)=true :=
 dsOk_yes ((out_fits a).trans (dsOk_c p).1) (by
  have h:=(dsOk_c p).2
  rw [dot_self] at h ⊢
  rw [← h]
  obtain⟨A,⟨B1,B2⟩,C⟩:=a
  unfold Ci.out;simp only [Cx.neg,Cx.norm];grind)
end Go.Proofs.YtcboejgklgnifaaGreat
namespace Go.Proofs.YtcboejgklgnifaaGreat
open Go.RowKit Rgn Eng
variable {S:Nat→Prop} {W:World}
theorem maY(m:Mb)(P:Pn)(p0:mbOk (rmb m)=true)(p1:PnF P):Calls Tryz.prog 163 #[mbV m,rpnV (pnR P)] W (RetV (.tuple #[rpnV (pncut (m.send P)),.int .i64 (pnerr (m.send P))]) W):=by
 have f1:=mb_l20 p0
 have f2:=p1.ht
 have f3:=send_le f1 (Nat.le_trans f2 (by decide))
 refine Run.goP (S:=Z0) ((Pack.nil.k (mbV m) (mbC m).toList (.s (.agg (ks 0 33)))).k (rpnV (pnR P)) (rpnC (pnR P)).toList (.s (.agg (ks 0 9)))) Tryz.func163 rfl ?_
 refine Run.cR (spMatC true) (fun _ _ _ H=>eOpenO m p0) ?_
 refine Run.cR (spPlaceC true) (fun _ _ _ H=>eSpotP P p1) ?_
 refine Run.cR spPlace (fun _ _ _ H=>mtSend m P (MatP.mk (H.f 0) (H.f 1) (H.f 2) (H.f 3) (H.f 4) (H.f 5) (H.f 6) (H.f 7)) (PlaceP.mk (H.f 8) (H.f 9)) (by first|assumption|omega)) ?_
 refine Run.cV ((rpnC (pncut (m.send P))).toList++[.int .i64 (pnerr (m.send P))]) (.tup [.agg (ks 0 9),.o (.k 9)]) (fun _ _ _ H=>plTold (m.send P) (PlaceP.mk (H.f 10) (H.f 11)) (by first|assumption|omega)) ?_
 exact Run.rV rfl
theorem maN(m:Mb)(p:RPn)(p0:mbOk (rmb m)=true)(p1:pnOk p=false):Calls Tryz.prog 163 #[mbV m,rpnV p] W (RetV (.tuple #[rpnV rzPn,.int .i64 2]) W):=by
 refine Run.goP (S:=Z0) ((Pack.nil.k (mbV m) (mbC m).toList (.s (.agg (ks 0 33)))).k (rpnV p) (rpnC p).toList (.s (.agg (ks 0 9)))) Tryz.func163 rfl ?_
 refine Run.cR (spMatC true) (fun _ _ _ H=>eOpenO m p0) ?_
 refine Run.cR spPlaceJK (fun _ _ _ H=>eSpotJ p) ?_
 refine Run.kn p1 ?_
 exact Run.rV rfl
theorem l20ok1{b0:Nat}(T0:TypeId)(a:Int)(B0:W.heap[b0]? = some (.cells (⟨[.int .i64 a]⟩) T0 (0,0))):Calls Tryz.prog 22 #[.slice (some ⟨b0,0,none⟩) 1 1] W (RetV (.bool (okL [a])) W):=by
 refine Run.goP (S:=Z0) (Pack.nil.b B0 (some 1) 1) Tryz.func22 rfl ?_
 refine Run.cV [.int .i64 a] kb (fun _ _ _ H=>l20num a) ?_
 refine Run.ic a 0 (a != 0) ?_
 refine (Bool.eq_false_or_eq_true (a != 0)).elim (fun c1=>?_) (fun c1=>?_)
 · refine Run.kn c1 ?_
   exact Run.rV (V' := .bool false) ((congrArg Value.bool (by simp only [okL,List.all_cons,List.all_nil,c1];rfl)))
 · refine Run.kn c1 ?_
   exact Run.rV (V' := .bool true) ((congrArg Value.bool (by simp only [okL,List.all_cons,List.all_nil,c1];rfl)))
theorem l20ok2{b0:Nat}(T0:TypeId)(a b:Int)(B0:W.heap[b0]? = some (.cells (⟨[.int .i64 a,.int .i64 b]⟩) T0 (0,0))):Calls Tryz.prog 22 #[.slice (some ⟨b0,0,none⟩) 2 2] W (RetV (.bool (okL [a,b])) W):=by
 refine Run.goP (S:=Z0) (Pack.nil.b B0 (some 2) 2) Tryz.func22 rfl ?_
 refine Run.cV [.int .i64 a] kb (fun _ _ _ H=>l20num a) ?_
 refine Run.ic a 0 (a != 0) ?_
 refine (Bool.eq_false_or_eq_true (a != 0)).elim (fun c1=>?_) (fun c1=>?_)
 · refine Run.kn c1 ?_
   exact Run.rV (V' := .bool false) ((congrArg Value.bool (by simp only [okL,List.all_cons,List.all_nil,c1];rfl)))
 · refine Run.kn c1 ?_
   refine Run.cV [.int .i64 b] kb (fun _ _ _ H=>l20num b) ?_
   refine Run.ic b 0 (b != 0) ?_
   refine (Bool.eq_false_or_eq_true (b != 0)).elim (fun c2=>?_) (fun c2=>?_)
   · refine Run.kn c2 ?_
     exact Run.rV (V' := .bool false) ((congrArg Value.bool (by simp only [okL,List.all_cons,List.all_nil,c1,c2];rfl)))
   · refine Run.kn c2 ?_
     exact Run.rV (V' := .bool true) ((congrArg Value.bool (by simp only [okL,List.all_cons,List.all_nil,c1,c2];rfl)))
theorem l20ok4{b0:Nat}(T0:TypeId)(a b c d:Int)(B0:W.heap[b0]? = some (.cells (⟨[.int .i64 a,.int .i64 b,.int .i64 c,.int .i64 d]⟩) T0 (0,0))):Calls Tryz.prog 22 #[.slice (some ⟨b0,0,none⟩) 4 4] W (RetV (.bool (okL [a,b,c,d])) W):=by
 refine Run.goP (S:=Z0) (Pack.nil.b B0 (some 4) 4) Tryz.func22 rfl ?_
 refine Run.cV [.int .i64 a] kb (fun _ _ _ H=>l20num a) ?_
 refine Run.ic a 0 (a != 0) ?_
 refine (Bool.eq_false_or_eq_true (a != 0)).elim (fun c1=>?_) (fun c1=>?_)
 · refine Run.kn c1 ?_
   exact Run.rV (V' := .bool false) ((congrArg Value.bool (by simp only [okL,List.all_cons,List.all_nil,c1];rfl)))
 · refine Run.kn c1 ?_
   refine Run.cV [.int .i64 b] kb (fun _ _ _ H=>l20num b) ?_
   refine Run.ic b 0 (b != 0) ?_
   refine (Bool.eq_false_or_eq_true (b != 0)).elim (fun c2=>?_) (fun c2=>?_)
   · refine Run.kn c2 ?_
     exact Run.rV (V' := .bool false) ((congrArg Value.bool (by simp only [okL,List.all_cons,List.all_nil,c1,c2];rfl)))
   · refine Run.kn c2 ?_
     refine Run.cV [.int .i64 c] kb (fun _ _ _ H=>l20num c) ?_
     refine Run.ic c 0 (c != 0) ?_
     refine (Bool.eq_false_or_eq_true (c != 0)).elim (fun c3=>?_) (fun c3=>?_)
     · refine Run.kn c3 ?_
       exact Run.rV (V' := .bool false) ((congrArg Value.bool (by simp only [okL,List.all_cons,List.all_nil,c1,c2,c3];rfl)))
     · refine Run.kn c3 ?_
       refine Run.cV [.int .i64 d] kb (fun _ _ _ H=>l20num d) ?_
       refine Run.ic d 0 (d != 0) ?_
       refine (Bool.eq_false_or_eq_true (d != 0)).elim (fun c4=>?_) (fun c4=>?_)
       · refine Run.kn c4 ?_
         exact Run.rV (V' := .bool false) ((congrArg Value.bool (by simp only [okL,List.all_cons,List.all_nil,c1,c2,c3,c4];rfl)))
       · refine Run.kn c4 ?_
         exact Run.rV (V' := .bool true) ((congrArg Value.bool (by simp only [okL,List.all_cons,List.all_nil,c1,c2,c3,c4];rfl)))
theorem l20ok5{b0:Nat}(T0:TypeId)(a b c d e:Int)(B0:W.heap[b0]? = some (.cells (⟨[.int .i64 a,.int .i64 b,.int .i64 c,.int .i64 d,.int .i64 e]⟩) T0 (0,0))):Calls Tryz.prog 22 #[.slice (some ⟨b0,0,none⟩) 5 5] W (RetV (.bool (okL [a,b,c,d,e])) W):=by
 refine Run.goP (S:=Z0) (Pack.nil.b B0 (some 5) 5) Tryz.func22 rfl ?_
 refine Run.cV [.int .i64 a] kb (fun _ _ _ H=>l20num a) ?_
 refine Run.ic a 0 (a != 0) ?_
 refine (Bool.eq_false_or_eq_true (a != 0)).elim (fun c1=>?_) (fun c1=>?_)
 · refine Run.kn c1 ?_
   exact Run.rV (V' := .bool false) ((congrArg Value.bool (by simp only [okL,List.all_cons,List.all_nil,c1];rfl)))
 · refine Run.kn c1 ?_
   refine Run.cV [.int .i64 b] kb (fun _ _ _ H=>l20num b) ?_
   refine Run.ic b 0 (b != 0) ?_
   refine (Bool.eq_false_or_eq_true (b != 0)).elim (fun c2=>?_) (fun c2=>?_)
   · refine Run.kn c2 ?_
     exact Run.rV (V' := .bool false) ((congrArg Value.bool (by simp only [okL,List.all_cons,List.all_nil,c1,c2];rfl)))
   · refine Run.kn c2 ?_
     refine Run.cV [.int .i64 c] kb (fun _ _ _ H=>l20num c) ?_
     refine Run.ic c 0 (c != 0) ?_
     refine (Bool.eq_false_or_eq_true (c != 0)).elim (fun c3=>?_) (fun c3=>?_)
     · refine Run.kn c3 ?_
       exact Run.rV (V' := .bool false) ((congrArg Value.bool (by simp only [okL,List.all_cons,List.all_nil,c1,c2,c3];rfl)))
     · refine Run.kn c3 ?_
       refine Run.cV [.int .i64 d] kb (fun _ _ _ H=>l20num d) ?_
       refine Run.ic d 0 (d != 0) ?_
       refine (Bool.eq_false_or_eq_true (d != 0)).elim (fun c4=>?_) (fun c4=>?_)
       · refine Run.kn c4 ?_
         exact Run.rV (V' := .bool false) ((congrArg Value.bool (by simp only [okL,List.all_cons,List.all_nil,c1,c2,c3,c4];rfl)))
       · refine Run.kn c4 ?_
         refine Run.cV [.int .i64 e] kb (fun _ _ _ H=>l20num e) ?_
         refine Run.ic e 0 (e != 0) ?_
         refine (Bool.eq_false_or_eq_true (e != 0)).elim (fun c5=>?_) (fun c5=>?_)
         · refine Run.kn c5 ?_
           exact Run.rV (V' := .bool false) ((congrArg Value.bool (by simp only [okL,List.all_cons,List.all_nil,c1,c2,c3,c4,c5];rfl)))
         · refine Run.kn c5 ?_
           exact Run.rV (V' := .bool true) ((congrArg Value.bool (by simp only [okL,List.all_cons,List.all_nil,c1,c2,c3,c4,c5];rfl)))
theorem l20long5{b0:Nat}(T0:TypeId)(a b c d e:RG)(B0:W.heap[b0]? = some (.cells (⟨(rgC a).toList++((rgC b).toList++((rgC c).toList++((rgC d).toList++((rgC e).toList))))⟩) T0 (0,0))):Calls Tryz.prog 38 #[.slice (some ⟨b0,0,none⟩) 5 5] W (RetV (.bool (lgE a||lgE b||lgE c||lgE d||lgE e)) W):=by
 refine Run.goP (S:=Z0) (Pack.nil.b B0 (some 5) 40) Tryz.func38 rfl ?_
 refine Run.cV [.bool (lgD a.re)] kb (fun _ _ _ H=>l20longF a.re) ?_
 refine (Bool.eq_false_or_eq_true (lgD a.re)).elim (fun c1=>?_) (fun c1=>?_)
 · refine Run.kn c1 ?_
   exact Run.rV (V' := .bool true) ((congrArg Value.bool (by simp [lgE,c1])))
 · refine Run.kn c1 ?_
   refine Run.cV [.bool (lgD a.im)] kb (fun _ _ _ H=>l20longF a.im) ?_
   refine (Bool.eq_false_or_eq_true (lgD a.im)).elim (fun c2=>?_) (fun c2=>?_)
   · refine Run.kn c2 ?_
     exact Run.rV (V' := .bool true) ((congrArg Value.bool (by simp [lgE,c1,c2])))
   · refine Run.kn c2 ?_
     refine Run.cV [.bool (lgD b.re)] kb (fun _ _ _ H=>l20longF b.re) ?_
     refine (Bool.eq_false_or_eq_true (lgD b.re)).elim (fun c3=>?_) (fun c3=>?_)
     · refine Run.kn c3 ?_
       exact Run.rV (V' := .bool true) ((congrArg Value.bool (by simp [lgE,c1,c2,c3])))
     · refine Run.kn c3 ?_
       refine Run.cV [.bool (lgD b.im)] kb (fun _ _ _ H=>l20longF b.im) ?_
       refine (Bool.eq_false_or_eq_true (lgD b.im)).elim (fun c4=>?_) (fun c4=>?_)
       · refine Run.kn c4 ?_
         exact Run.rV (V' := .bool true) ((congrArg Value.bool (by simp [lgE,c1,c2,c3,c4])))
       · refine Run.kn c4 ?_
         refine Run.cV [.bool (lgD c.re)] kb (fun _ _ _ H=>l20longF c.re) ?_
         refine (Bool.eq_false_or_eq_true (lgD c.re)).elim (fun c5=>?_) (fun c5=>?_)
         · refine Run.kn c5 ?_
           exact Run.rV (V' := .bool true) ((congrArg Value.bool (by simp [lgE,c1,c2,c3,c4,c5])))
         · refine Run.kn c5 ?_
           refine Run.cV [.bool (lgD c.im)] kb (fun _ _ _ H=>l20longF c.im) ?_
           refine (Bool.eq_false_or_eq_true (lgD c.im)).elim (fun c6=>?_) (fun c6=>?_)
           · refine Run.kn c6 ?_
             exact Run.rV (V' := .bool true) ((congrArg Value.bool (by simp [lgE,c1,c2,c3,c4,c5,c6])))
           · refine Run.kn c6 ?_
             refine Run.cV [.bool (lgD d.re)] kb (fun _ _ _ H=>l20longF d.re) ?_
             refine (Bool.eq_false_or_eq_true (lgD d.re)).elim (fun c7=>?_) (fun c7=>?_)
             · refine Run.kn c7 ?_
               exact Run.rV (V' := .bool true) ((congrArg Value.bool (by simp [lgE,c1,c2,c3,c4,c5,c6,c7])))
             · refine Run.kn c7 ?_
               refine Run.cV [.bool (lgD d.im)] kb (fun _ _ _ H=>l20longF d.im) ?_
               refine (Bool.eq_false_or_eq_true (lgD d.im)).elim (fun c8=>?_) (fun c8=>?_)
               · refine Run.kn c8 ?_
                 exact Run.rV (V' := .bool true) ((congrArg Value.bool (by simp [lgE,c1,c2,c3,c4,c5,c6,c7,c8])))
               · refine Run.kn c8 ?_
                 refine Run.cV [.bool (lgD e.re)] kb (fun _ _ _ H=>l20longF e.re) ?_
                 refine (Bool.eq_false_or_eq_true (lgD e.re)).elim (fun c9=>?_) (fun c9=>?_)
                 · refine Run.kn c9 ?_
                   exact Run.rV (V' := .bool true) ((congrArg Value.bool (by simp [lgE,c1,c2,c3,c4,c5,c6,c7,c8,c9])))
                 · refine Run.kn c9 ?_
                   refine Run.cV [.bool (lgD e.im)] kb (fun _ _ _ H=>l20longF e.im) ?_
                   refine (Bool.eq_false_or_eq_true (lgD e.im)).elim (fun c10=>?_) (fun c10=>?_)
                   · refine Run.kn c10 ?_
                     exact Run.rV (V' := .bool true) ((congrArg Value.bool (by simp [lgE,c1,c2,c3,c4,c5,c6,c7,c8,c9,c10])))
                   · refine Run.kn c10 ?_
                     exact Run.rV (V' := .bool false) ((congrArg Value.bool (by simp [lgE,c1,c2,c3,c4,c5,c6,c7,c8,c9,c10])))
end Go.Proofs.YtcboejgklgnifaaGreat
namespace Go.Proofs.YtcboejgklgnifaaGreat
open Go.RowKit Rgn Eng
variable {W:World}
theorem lg6_le{n:Nat}(h:(decide (60<(n:Int))&&decide ((n:Int)≤1024))=false)(f:n≤1024):n≤60:=by
 rw [Bool.and_eq_false_iff] at h
 rcases h with h|h
 ·have:=of_decide_eq_false h;omega
 ·have:=of_decide_eq_false h;omega
theorem lgD_ht{q:Rat}(h:lgD (rf q)=false)(f:fits (rf q)=true):ht q≤490:=by
 unfold fits at f
 rw [Bool.and_eq_true,decide_eq_true_eq,decide_eq_true_eq] at f
 unfold lgD lg6 at h
 rw [Bool.or_eq_false_iff] at h
 have h3:(rw q.num).s.size≤60:=lg6_le h.1 f.1
 have h4:(rw (q.den:Int)).s.size≤60:=lg6_le h.2 f.2
 have h1:=hi_bytes q.num
 have h2:=hi_bytes (q.den:Int)
 have h5:hi (q.den:Int)=bl q.den+1:=by unfold hi;rw [Int.natAbs_natCast]
 have h6:hi q.num=bl q.num.natAbs+1:=rfl
 unfold ht
 omega
theorem lgE_ht{z:Cx}(h:lgE (rg z)=false)(f:gfits (rg z)=true):ht z.re+ht z.im≤980:=by
 have f:(fits (rf z.re)&&fits (rf z.im))=true:=f
 have h:(lgD (rf z.re)||lgD (rf z.im))=false:=h
 rw [Bool.and_eq_true] at f
 rw [Bool.or_eq_false_iff] at h
 have h1:=lgD_ht h.1 f.1
 have h2:=lgD_ht h.2 f.2
 omega
theorem lgK_ht{c:Ci}(h:lgK (rci c)=false)(f:cifits (rci c)=true):ht c.a+ht c.b.re+ht c.b.im+ht c.c≤1960:=by
 obtain⟨f1,f2,f3⟩:=and_3 f
 have h:((lgD (rf c.a)||lgE (rg c.b))||lgD (rf c.c))=false:=h
 rw [Bool.or_eq_false_iff,Bool.or_eq_false_iff] at h
 have h1:=lgD_ht h.1.1 f1
 have h2:=lgE_ht h.1.2 f2
 have h3:=lgD_ht h.2 f3
 omega
def Kp(a b:Ci)(m:RMb):Prop:=(lgK (rci a)||lgK (rci b))=false∧(lgE m.a=false∧lgE m.b=false∧lgE m.c=false∧lgE m.d=false)∧dsOk (rci a)=true∧dsOk (rci b)=true
theorem Kp.of{a b:Ci}{m:RMb}{p:RPn}(h:(lgK (rci a)||lgK (rci b))=false)(h2:(lgE m.a||lgE m.b||lgE m.c||lgE m.d||lgE p.z)=false)(h3:dsOk (rci a)=true)(h4:dsOk (rci b)=true):Kp a b m:=by
 simp only [Bool.or_eq_false_iff] at h2
 exact⟨h,⟨h2.1.1.1.1,h2.1.1.1.2,h2.1.1.2,h2.1.2⟩,h3,h4⟩
theorem Kp.a{a b:Ci}{m:RMb}(h:Kp a b m):ht a.a+ht a.b.re+ht a.b.im+ht a.c≤1960:=lgK_ht (Bool.or_eq_false_iff.1 h.1).1 (dsOk_c h.2.2.1).1
theorem Kp.b{a b:Ci}{m:RMb}(h:Kp a b m):ht b.a+ht b.b.re+ht b.b.im+ht b.c≤1960:=lgK_ht (Bool.or_eq_false_iff.1 h.1).2 (dsOk_c h.2.2.2).1
theorem Kp.m{a b:Ci}{m:Mb}(h:Kp a b (rmb m))(k:mbOk (rmb m)=true):ht m.a.re+ht m.a.im+ht m.b.re+ht m.b.im+ht m.c.re+ht m.c.im+ht m.d.re+ht m.d.im≤4000:=by
 obtain⟨f1,f2,f3,f4⟩:=and_4 (mbOk_c k).1
 obtain⟨h1,h2,h3,h4⟩:=h.2.1
 have k1:=lgE_ht h1 f1
 have k2:=lgE_ht h2 f2
 have k3:=lgE_ht h3 f3
 have k4:=lgE_ht h4 f4
 omega
theorem dot_fits{a b:Ci}(ha:ht a.a+ht a.b.re+ht a.b.im+ht a.c≤1960)(hb:ht b.a+ht b.b.re+ht b.b.im+ht b.c≤1960):fits (rf (a.dot b))=true:=fits_ht (by have:=dot_ht a b;omega)
theorem dot_out(a b:Ci):a.dot b.out=-(a.dot b):=by
 rw [out_times,show a.dot (b.times (-1))=(a.times 1).dot (b.times (-1)) by
  congr 1;refine ci_ext ?_ ?_ ?_ ?_<;>simp only [Ci.times,Cx.scale,Rat.mul_one],dot_times]
 grind
noncomputable def pvm(p:RPn):Pn:=if h:pnOk p=true then (pnOk_ex h).choose else ⟨false,⟨0,0⟩⟩
theorem pvm_ok{p:RPn}(h:pnOk p=true):p=pnR (pvm p)∧PnF (pvm p):=by unfold pvm;rw [dif_pos h];exact (pnOk_ex h).choose_spec
theorem pnR_in{P Q:Pn}(hP:P.inf=true→P.z=⟨0,0⟩)(hQ:Q.inf=true→Q.z=⟨0,0⟩)(h:pnR P=pnR Q):P=Q:=by
 obtain⟨i,z⟩:=P
 obtain⟨j,w⟩:=Q
 cases i<;>cases j
 ·have h:RPn.mk false (rg z)=RPn.mk false (rg w):=h
  have:=rg_inj (congrArg RPn.z h)
  rw [this]
 ·have h:RPn.mk false (rg z)=RPn.mk true rz:=h
  cases congrArg RPn.inf h
 ·have h:RPn.mk true rz=RPn.mk false (rg w):=h
  cases congrArg RPn.inf h
 ·rw [show z=⟨0,0⟩ from hP rfl,show w=⟨0,0⟩ from hQ rfl]
theorem pvm_is{P:Pn}(h:PnF P):pvm (pnR P)=P:=by
 obtain⟨e,f⟩:=pvm_ok (pnOk_pnR h)
 exact (pnR_in h.z f.z e).symm
noncomputable def sdR(a:Ci)(p:RPn):Int:=if pnOk p=true then a.rim.side (pvm p) else 0
noncomputable def sdE(p:RPn):Int:=if pnOk p=true then 0 else 2
noncomputable def atR(m:Mb)(p:RPn):RPn:=if pnOk p=true then pncut (m.send (pvm p)) else rzPn
noncomputable def atE(m:Mb)(p:RPn):Int:=if pnOk p=true then pnerr (m.send (pvm p)) else 2
theorem siA(a:Ci)(p:RPn)(p0:dsOk (rci a)=true):Calls Tryz.prog 64 #[ciV a,rpnV p] W (RetV (.tuple #[.int .i64 (sdR a p),.int .i64 (sdE p)]) W):=by
 unfold sdR sdE
 cases h:pnOk p with
 | false=>exact siM a p p0 h
 | true =>
  obtain⟨e,f⟩:=pvm_ok h
  have k:=siY (W:=W) a (pvm p) p0 f
  rw [← e] at k;exact k
theorem atA(m:Mb)(p:RPn)(p0:mbOk (rmb m)=true):Calls Tryz.prog 163 #[mbV m,rpnV p] W (RetV (.tuple #[rpnV (atR m p),.int .i64 (atE m p)]) W):=by
 unfold atR atE
 cases h:pnOk p with
 | false=>exact maN m p p0 h
 | true =>
  obtain⟨e,f⟩:=pvm_ok h
  have k:=maY (W:=W) m (pvm p) p0 f
  rw [← e] at k;exact k
theorem prF(a b:Ci)(p0:dsOk (rci a)=true)(p1:dsOk (rci b)=true)(p2:fits (rf (a.dot b))=true):Calls Tryz.prog 59 #[ciV a,ciV b] W (RetV (.tuple #[fV (a.dot b),.int .i64 0]) W):=by
 refine reV ?_ (prY a b p0 p1)
 unfold fcut ferr;rw [if_pos p2,if_pos p2]
theorem imF(m:Mb)(d:Ci)(p0:mbOk (rmb m)=true)(p1:dsOk (rci d)=true)(p2:isSq m.det.norm=true)(p3:ht m.a.re+ht m.a.im+ht m.b.re+ht m.b.im+ht m.c.re+ht m.c.im+ht m.d.re+ht m.d.im≤4000)(p4:ht d.a+ht d.b.re+ht d.b.im+ht d.c≤2000)(p5:cifits (rci (m.dsI d))=true):Calls Tryz.prog 52 #[mbV m,ciV d] W (RetV (.tuple #[ciV (m.dsI d),.int .i64 0]) W):=by
 refine reV ?_ (imY m d p0 p1 p2 p3 p4)
 rw [ok_r p5,ok_e p5]
theorem okL_1{a:Int}(h:okL [a]=true):a=0:=by simpa [okL] using h
theorem okL_2{a b:Int}(h:okL [a,b]=true):a=0∧b=0:=by simpa [okL] using h
theorem sdE_0{p:RPn}(h:sdE p=0):pnOk p=true:=by
 unfold sdE at h
 cases e:pnOk p with
 | true=>rfl
 | false=>rw [e] at h;exact absurd h (by decide)
theorem sdE_1{p:RPn}(h:pnOk p=true):sdE p=0:=by unfold sdE;rw [if_pos h]
section
variable {a b:Ci} {m:Mb} {p:RPn}
theorem kis_F(hf:pnfits (a.kis b)=true):PnF (a.kis b):=by
 refine⟨fun h=>?_,hf⟩
 unfold Ci.kis at h ⊢
 split at h
 ·rename_i e;rw [if_pos e]
 ·cases h
theorem kp_k(h:okL [kisE a b]=true):a.touch b=true∧PnF (a.kis b)∧kisR a b=pnR (a.kis b):=by
 have h:=okL_1 h
 cases ht:a.touch b with
 | false=>unfold kisE at h;rw [if_neg (by rw [ht];decide)] at h;exact absurd h (by decide)
 | true =>
  unfold kisE at h;rw [if_pos ht] at h
  unfold pnerr at h
  cases hf:pnfits (a.kis b) with
  | false=>rw [if_neg (by rw [hf];decide)] at h;exact absurd h (by decide)
  | true=>exact⟨rfl,kis_F hf,by unfold kisR pncut;rw [if_pos ht,if_pos hf]⟩
theorem kp_1(h:okL [kisE a b]=true):okL [sdE (kisR a b),sdE (kisR a b)]=true:=by
 obtain⟨_,h2,h3⟩:=kp_k h
 rw [h3,sdE_1 (pnOk_pnR h2)];rfl
theorem kis_comm(a b:Ci):a.kis b=b.kis a:=by
 have e:a.plus b=b.plus a:=by unfold Ci.plus;refine ci_ext ?_ ?_ ?_ ?_<;>simp only [Cx.add]<;>grind
 unfold Ci.kis;rw [e]
theorem kp_2(pa:dsOk (rci a)=true)(pb:dsOk (rci b)=true)(h:okL [kisE a b]=true):(sdR a (kisR a b) != 0)=false∧(sdR b (kisR a b) != 0)=false:=by
 obtain⟨h1,h2,h3⟩:=kp_k h
 unfold sdR
 rw [h3,if_pos (pnOk_pnR h2),if_pos (pnOk_pnR h2),pvm_is h2,kis_side (dsOk_c pa).2 (dsOk_c pb).2 h1]
 rw [kis_comm,kis_side (dsOk_c pb).2 (dsOk_c pa).2 (by rw [touch_comm];exact h1)]
 exact⟨rfl,rfl⟩
theorem dsI_ok(pm:mbOk (rmb m)=true)(hs:isSq m.det.norm=true)(pa:dsOk (rci a)=true)(hf:cifits (rci (m.dsI a))=true):dsOk (rci (m.dsI a))=true :=
 dsOk_yes hf (by rw [dsI_dot (mbOk_c pm).2.1 hs];exact (dsOk_c pa).2)
theorem send_PF{P:Pn}(hf:pnfits (m.send P)=true):PnF (m.send P):=by
 refine⟨fun h=>?_,hf⟩
 unfold Mb.send at h ⊢
 split at h
 ·rename_i e;rw [if_pos e]
 ·cases h
theorem kp_s(h:okL [atE m p,sdE p]=true):pnOk p=true∧PnF (m.send (pvm p))∧atR m p=pnR (m.send (pvm p)):=by
 obtain⟨h1,h2⟩:=okL_2 h
 have h3:=sdE_0 h2
 unfold atE at h1;rw [if_pos h3] at h1
 unfold pnerr at h1
 cases hf:pnfits (m.send (pvm p)) with
 | false=>rw [if_neg (by rw [hf];decide)] at h1;exact absurd h1 (by decide)
 | true=>exact⟨h3,send_PF hf,by unfold atR pncut;rw [if_pos h3,if_pos hf]⟩
theorem kp_3(h:okL [atE m p,sdE p]=true):okL [sdE (atR m p)]=true:=by
 obtain⟨_,h2,h3⟩:=kp_s h
 rw [h3,sdE_1 (pnOk_pnR h2)];rfl
theorem kp_4(pm:mbOk (rmb m)=true)(hs:isSq m.det.norm=true)(h:okL [atE m p,sdE p]=true):(sdR a p == sdR (m.dsI a) (atR m p))=true:=by
 obtain⟨h1,h2,h3⟩:=kp_s h
 unfold sdR
 rw [h3,if_pos (pnOk_pnR h2),if_pos h1,pvm_is h2,dsI_side (mbOk_c pm).2.1 hs]
 exact beq_self_eq_true _
theorem cierr_2(c:Ci):(cierr c == 2)=false∧(cierr c == 7)=false:=by unfold cierr;split<;>exact⟨rfl,rfl⟩
theorem ce_7(c d:Ci):((cierr c == 7) == (cierr d == 7))=true:=by rw [(cierr_2 c).2,(cierr_2 d).2];rfl
theorem ce_2(c d:Ci):((cierr c == 2) == (cierr d == 2))=true:=by rw [(cierr_2 c).1,(cierr_2 d).1];rfl
theorem kp_n(h:(cifits (rci a)&&cifits (rci b))=false):okL [cierr a,cierr b]=false:=by
 rw [Bool.and_eq_false_iff] at h
 unfold cierr
 rcases h with h|h
 ·rw [if_neg (by rw [h];decide)];rfl
 ·rw [if_neg (c:=cifits (rci b)=true) (by rw [h];decide)];split<;>rfl
end
end Go.Proofs.YtcboejgklgnifaaGreat
namespace Go.Proofs.YtcboejgklgnifaaGreat
open Go.RowKit Rgn Eng
variable {S:Nat→Prop} {W:World}
theorem kp0(a b:Ci)(m:RMb)(p:RPn)(x:Rat)(p0:Kp a b m)(p1:mbOk m=false):Calls Tryz.prog 65 #[ciV a,ciV b,rmbV m,rpnV p,fV x] W (RetV (.bool true) W):=by
 refine Run.goP (S:=Z0) (((((Pack.nil.k (ciV a) (ciC a).toList (.s (.agg (ks 0 16)))).k (ciV b) (ciC b).toList (.s (.agg (ks 0 16)))).k (rmbV m) (rmbC m).toList (.s (.agg (ks 0 33)))).k (rpnV p) (rpnC p).toList (.s (.agg (ks 0 9)))).k (fV x) (fC x).toList (.s (.agg (ks 0 4)))) Tryz.func65 rfl ?_
 refine Run.cV (rciC rzCi).toList (.tup [.agg (ks 0 16),.o (.c (.int .i64 2))]) (fun _ _ _ H=>imN2 m a p1 (by exact p0.2.2.1)) ?_
 refine Run.cV (rciC rzCi).toList (.tup [.agg (ks 0 16),.o (.c (.int .i64 2))]) (fun _ _ _ H=>imN2 m b p1 (by exact p0.2.2.2)) ?_
 refine Run.cV [.bool (okL [2,2])] kb (fun _ _ _ H=>l20ok2 35 2 2 (H.b 7)) ?_
 refine Run.kn (b:=false) rfl ?_
 refine Run.cV [] (.s (.o (.c (.int .i64 2)))) (fun _ _ _ H=>l20num 2) ?_
 refine Run.cV [] (.s (.o (.c (.int .i64 2)))) (fun _ _ _ H=>l20num 2) ?_
 refine Run.cV [] (.s (.o (.c (.int .i64 2)))) (fun _ _ _ H=>l20num 2) ?_
 refine Run.cV [] (.s (.o (.c (.int .i64 2)))) (fun _ _ _ H=>l20num 2) ?_
 exact Run.rV rfl
theorem kp1(a b:Ci)(m:Mb)(p:RPn)(x:Rat)(p0:Kp a b (rmb m))(p1:mbOk (rmb m)=true)(p2:isSq m.det.norm=false):Calls Tryz.prog 65 #[ciV a,ciV b,mbV m,rpnV p,fV x] W (RetV (.bool true) W):=by
 obtain⟨oa,ob⟩:=p0.2.2
 have ha:=p0.a
 have hb:=p0.b
 have hm:=p0.m p1
 refine Run.goP (S:=Z0) (((((Pack.nil.k (ciV a) (ciC a).toList (.s (.agg (ks 0 16)))).k (ciV b) (ciC b).toList (.s (.agg (ks 0 16)))).k (mbV m) (mbC m).toList (.s (.agg (ks 0 33)))).k (rpnV p) (rpnC p).toList (.s (.agg (ks 0 9)))).k (fV x) (fC x).toList (.s (.agg (ks 0 4)))) Tryz.func65 rfl ?_
 refine Run.cV (rciC rzCi).toList (.tup [.agg (ks 0 16),.o (.c (.int .i64 7))]) (fun _ _ _ H=>imS m a p1 (by exact oa) p2) ?_
 refine Run.cV (rciC rzCi).toList (.tup [.agg (ks 0 16),.o (.c (.int .i64 7))]) (fun _ _ _ H=>imS m b p1 (by exact ob) p2) ?_
 refine Run.cV [.bool (okL [7,7])] kb (fun _ _ _ H=>l20ok2 35 7 7 (H.b 7)) ?_
 refine Run.kn (b:=false) rfl ?_
 refine Run.cV [] (.s (.o (.c (.int .i64 7)))) (fun _ _ _ H=>l20num 7) ?_
 refine Run.cV [] (.s (.o (.c (.int .i64 7)))) (fun _ _ _ H=>l20num 7) ?_
 refine Run.cV [] (.s (.o (.c (.int .i64 7)))) (fun _ _ _ H=>l20num 7) ?_
 refine Run.cV [] (.s (.o (.c (.int .i64 7)))) (fun _ _ _ H=>l20num 7) ?_
 exact Run.rV rfl
theorem kp2(a b:Ci)(m:Mb)(p:RPn)(x:Rat)(p0:Kp a b (rmb m))(p1:mbOk (rmb m)=true)(p2:isSq m.det.norm=true)(p3:(cifits (rci (m.dsI a))&&cifits (rci (m.dsI b)))=false):Calls Tryz.prog 65 #[ciV a,ciV b,mbV m,rpnV p,fV x] W (RetV (.bool true) W):=by
 obtain⟨oa,ob⟩:=p0.2.2
 have ha:=p0.a
 have hb:=p0.b
 have hm:=p0.m p1
 refine Run.goP (S:=Z0) (((((Pack.nil.k (ciV a) (ciC a).toList (.s (.agg (ks 0 16)))).k (ciV b) (ciC b).toList (.s (.agg (ks 0 16)))).k (mbV m) (mbC m).toList (.s (.agg (ks 0 33)))).k (rpnV p) (rpnC p).toList (.s (.agg (ks 0 9)))).k (fV x) (fC x).toList (.s (.agg (ks 0 4)))) Tryz.func65 rfl ?_
 refine Run.cV ((rciC (cicut (m.dsI a))).toList++[.int .i64 (cierr (m.dsI a))]) (.tup [.agg (ks 0 16),.o (.k 16)]) (fun _ _ _ H=>imY m a p1 (by exact oa) p2 (by omega) (by omega)) ?_
 refine Run.cV ((rciC (cicut (m.dsI b))).toList++[.int .i64 (cierr (m.dsI b))]) (.tup [.agg (ks 0 16),.o (.k 16)]) (fun _ _ _ H=>imY m b p1 (by exact ob) p2 (by omega) (by omega)) ?_
 refine Run.cV [.bool (okL [(cierr (m.dsI a)),(cierr (m.dsI b))])] kb (fun _ _ _ H=>l20ok2 35 (cierr (m.dsI a)) (cierr (m.dsI b)) (H.b 7)) ?_
 refine Run.kn (kp_n p3) ?_
 refine Run.cV [.int .i64 (cierr (m.dsI a))] kb (fun _ _ _ H=>l20num (cierr (m.dsI a))) ?_
 refine Run.ic (cierr (m.dsI a)) 7 ((cierr (m.dsI a)) == 7) ?_
 refine Run.cV [.int .i64 (cierr (m.dsI b))] kb (fun _ _ _ H=>l20num (cierr (m.dsI b))) ?_
 refine Run.ic (cierr (m.dsI b)) 7 ((cierr (m.dsI b)) == 7) ?_
 refine Run.bi [] (cb true) (fun _ _ _ o1 o2 _ ho hx hy=>ex_eql_bool (t:=4) ((cierr (m.dsI a)) == 7) ((cierr (m.dsI b)) == 7) Tryz.underlying4 ho hx hy) ?_ (hV:=fun _ _=>congrArg Value.bool (ce_7 _ _))
 refine Run.cV [.int .i64 (cierr (m.dsI a))] kb (fun _ _ _ H=>l20num (cierr (m.dsI a))) ?_
 refine Run.ic (cierr (m.dsI a)) 2 ((cierr (m.dsI a)) == 2) ?_
 refine Run.cV [.int .i64 (cierr (m.dsI b))] kb (fun _ _ _ H=>l20num (cierr (m.dsI b))) ?_
 refine Run.ic (cierr (m.dsI b)) 2 ((cierr (m.dsI b)) == 2) ?_
 refine Run.bi [] (cb true) (fun _ _ _ o1 o2 _ ho hx hy=>ex_eql_bool (t:=4) ((cierr (m.dsI a)) == 2) ((cierr (m.dsI b)) == 2) Tryz.underlying4 ho hx hy) ?_ (hV:=fun _ _=>congrArg Value.bool (ce_2 _ _))
 exact Run.rV rfl
theorem kp3(a b:Ci)(m:Mb)(p:RPn)(x:Rat)(p0:Kp a b (rmb m))(p1:mbOk (rmb m)=true)(p2:isSq m.det.norm=true)(p3:cifits (rci (m.dsI a))=true)(p4:cifits (rci (m.dsI b))=true)(p5:x=a.dot b):Calls Tryz.prog 65 #[ciV a,ciV b,mbV m,rpnV p,fV x] W (RetV (.bool true) W):=by
 obtain⟨oa,ob⟩:=p0.2.2
 have ha:=p0.a
 have hb:=p0.b
 have hm:=p0.m p1
 have pa:=dsI_ok p1 p2 oa p3
 have pb:=dsI_ok p1 p2 ob p4
 have dt:=dsI_dot (mbOk_c p1).2.1 p2 a b
 have ft:fits (rf ((m.dsI a).dot (m.dsI b)))=true:=by rw [dt];exact dot_fits ha hb
 refine Run.goP (S:=Z0) (((((Pack.nil.k (ciV a) (ciC a).toList (.s (.agg (ks 0 16)))).k (ciV b) (ciC b).toList (.s (.agg (ks 0 16)))).k (mbV m) (mbC m).toList (.s (.agg (ks 0 33)))).k (rpnV p) (rpnC p).toList (.s (.agg (ks 0 9)))).k (fV x) (fC x).toList (.s (.agg (ks 0 4)))) Tryz.func65 rfl ?_
 refine Run.cV (ciC (m.dsI a)).toList (.tup [.agg (ks 0 16),.o (.c (.int .i64 0))]) (fun _ _ _ H=>imF m a p1 (by exact oa) p2 (by omega) (by omega) p3) ?_
 refine Run.cV (ciC (m.dsI b)).toList (.tup [.agg (ks 0 16),.o (.c (.int .i64 0))]) (fun _ _ _ H=>imF m b p1 (by exact ob) p2 (by omega) (by omega) p4) ?_
 refine Run.cV [.bool (okL [0,0])] kb (fun _ _ _ H=>l20ok2 35 0 0 (H.b 7)) ?_
 refine Run.kn (b:=true) rfl ?_
 refine Run.cV (fC ((m.dsI a).dot (m.dsI b))).toList (.tup [.agg (ks 0 4),.o (.c (.int .i64 0))]) (fun _ _ _ H=>prF (m.dsI a) (m.dsI b) (by exact pa) (by exact pb) (by exact ft)) ?_
 refine Run.cV [.bool (a.touch b)] (.tup [.o (.k 0),.o (.c (.int .i64 0))]) (fun _ _ _ H=>toY 29 a b (H.b 9) (by exact oa) (by exact ob)) ?_
 refine Run.cV [.bool ((m.dsI a).touch (m.dsI b))] (.tup [.o (.k 0),.o (.c (.int .i64 0))]) (fun _ _ _ H=>toY 29 (m.dsI a) (m.dsI b) (H.b 10) (by exact pa) (by exact pb)) ?_
 refine Run.cV [.bool (a.apt b)] (.tup [.o (.k 0),.o (.c (.int .i64 0))]) (fun _ _ _ H=>apY a b (by exact oa) (by exact ob)) ?_
 refine Run.cV [.bool ((m.dsI a).apt (m.dsI b))] (.tup [.o (.k 0),.o (.c (.int .i64 0))]) (fun _ _ _ H=>apY (m.dsI a) (m.dsI b) (by exact pa) (by exact pb)) ?_
 refine Run.cV ((rpnC (atR m p)).toList++[.int .i64 (atE m p)]) (.tup [.agg (ks 0 9),.o (.k 9)]) (fun _ _ _ H=>atA m p p1) ?_
 refine Run.cV ([.int .i64 (sdR a p)]++[.int .i64 (sdE p)]) (.tup [.o (.k 0),.o (.k 1)]) (fun _ _ _ H=>siA a p (by exact oa)) ?_
 refine Run.cV ([.int .i64 (sdR (m.dsI a) (atR m p))]++[.int .i64 (sdE (atR m p))]) (.tup [.o (.k 0),.o (.k 1)]) (fun _ _ _ H=>siA (m.dsI a) (atR m p) (by exact pa)) ?_
 refine Run.cV [.bool (okL [0])] kb (fun _ _ _ H=>l20ok1 35 0 (H.b 12)) ?_
 refine Run.kn (b:=true) rfl ?_
 refine Run.bi [] (cb true) (fun _ _ _ o1 o2 _ ho hx hy=>ex_eql_frac (r:=(rf ((m.dsI a).dot (m.dsI b)))) (q:=(rf x)) o1 o2 ho hx hy ((rf_dec ((m.dsI a).dot (m.dsI b)) x).trans (decide_eq_true (dt.trans p5.symm)))) ?_
 refine Run.cV [.bool (okL [0,0,0,0])] kb (fun _ _ _ H=>l20ok4 35 0 0 0 0 (H.b 13)) ?_
 refine Run.kn (b:=true) rfl ?_
 refine Run.bi [] (cb true) (fun _ _ _ o1 o2 _ ho hx hy=>ex_eql_bool (t:=4) (a.touch b) ((m.dsI a).touch (m.dsI b)) Tryz.underlying4 ho hx hy) ?_ (hV:=fun _ _=>congrArg Value.bool (beq_iff_eq.2 (dsI_touch (mbOk_c p1).2.1 p2 a b).symm))
 refine Run.bi [] (cb true) (fun _ _ _ o1 o2 _ ho hx hy=>ex_eql_bool (t:=4) (a.apt b) ((m.dsI a).apt (m.dsI b)) Tryz.underlying4 ho hx hy) ?_ (hV:=fun _ _=>congrArg Value.bool (beq_iff_eq.2 (dsI_apt (mbOk_c p1).2.1 p2 (dsOk_c oa).2 (dsOk_c ob).2).symm))
 refine Run.cV [.bool (okL [(atE m p),(sdE p)])] kb (fun _ _ _ H=>l20ok2 35 (atE m p) (sdE p) (H.b 14)) ?_
 refine (Bool.eq_false_or_eq_true (okL [(atE m p),(sdE p)])).elim (fun c1=>?_) (fun c1=>?_)
 · refine Run.kn c1 ?_
   refine Run.cV [.bool (okL [(sdE (atR m p))])] kb (fun _ _ _ H=>l20ok1 35 (sdE (atR m p)) (H.b 15)) ?_
   refine Run.kn (kp_3 c1) ?_
   refine Run.ic (sdR a p) (sdR (m.dsI a) (atR m p)) ((sdR a p) == (sdR (m.dsI a) (atR m p))) ?_
   exact Run.rV (V' := .bool ((sdR a p) == (sdR (m.dsI a) (atR m p)))) ((congrArg Value.bool (by exact kp_4 p1 p2 c1)))
 · refine Run.kn c1 ?_
   exact Run.rV rfl
end Go.Proofs.YtcboejgklgnifaaGreat
namespace Go.Proofs.YtcboejgklgnifaaGreat
open Go.RowKit Rgn Eng
variable {W:World}
theorem kpA(a b:Ci)(m:RMb)(p:RPn)(x:Rat)(p0:Kp a b m)(p1:x=a.dot b):Calls Tryz.prog 65 #[ciV a,ciV b,rmbV m,rpnV p,fV x] W (RetV (.bool true) W):=by
 cases h:mbOk m with
 | false=>exact kp0 a b m p x p0 h
 | true =>
  obtain⟨m,rfl,-⟩:=mbOk_ex h
  cases hs:isSq m.det.norm with
  | false=>exact kp1 a b m p x p0 h hs
  | true =>
   cases ha:cifits (rci (m.dsI a)) with
   | false=>exact kp2 a b m p x p0 h hs (by rw [ha];rfl)
   | true=>cases hb:cifits (rci (m.dsI b)) with
    | false=>exact kp2 a b m p x p0 h hs (by rw [hb,Bool.and_false])
    | true=>exact kp3 a b m p x p0 h hs ha hb p1
end Go.Proofs.YtcboejgklgnifaaGreat
namespace Go.Proofs.YtcboejgklgnifaaGreat
open Go.RowKit Rgn Eng
variable {S:Nat→Prop} {W:World}
theorem lKp0(a b:RCi)(m:RMb)(p:RPn)(p0:(lgK a||lgK b)=true):Calls Tryz.prog 8 #[.agg ⟨(rciC a).toList++(rciC b).toList++(rmbC m).toList++(rpnC p).toList⟩] W (RetV (.bool true) W):=by
 refine Run.goP (S:=Z0) (Pack.nil.k (.agg ⟨(rciC a).toList++(rciC b).toList++(rmbC m).toList++(rpnC p).toList⟩) ((rciC a).toList++(rciC b).toList++(rmbC m).toList++(rpnC p).toList) (.s (.agg (ks 0 74)))) Tryz.func8 rfl ?_
 refine Run.dr ?_
 refine RunD.en ?_
 refine Run.cV [.bool (lgK a||lgK b)] kb (fun _ _ _ H=>l20far2 29 a b (H.b 5)) ?_
 refine Run.kn p0 ?_
 refine Run.cV [] (cb true) (fun _ _ _ H=>l20works) ?_
 exact Run.rV rfl
theorem lKp1(a b:RCi)(m:RMb)(p:RPn)(p0:(lgK a||lgK b)=false)(p1:(lgE m.a||lgE m.b||lgE m.c||lgE m.d||lgE p.z)=true):Calls Tryz.prog 8 #[.agg ⟨(rciC a).toList++(rciC b).toList++(rmbC m).toList++(rpnC p).toList⟩] W (RetV (.bool true) W):=by
 refine Run.goP (S:=Z0) (Pack.nil.k (.agg ⟨(rciC a).toList++(rciC b).toList++(rmbC m).toList++(rpnC p).toList⟩) ((rciC a).toList++(rciC b).toList++(rmbC m).toList++(rpnC p).toList) (.s (.agg (ks 0 74)))) Tryz.func8 rfl ?_
 refine Run.dr ?_
 refine RunD.en ?_
 refine Run.cV [.bool (lgK a||lgK b)] kb (fun _ _ _ H=>l20far2 29 a b (H.b 5)) ?_
 refine Run.kn p0 ?_
 refine Run.cV [.bool (lgE m.a||lgE m.b||lgE m.c||lgE m.d||lgE p.z)] kb (fun _ _ _ H=>l20long5 27 m.a m.b m.c m.d p.z (H.b 6)) ?_
 refine Run.kn p1 ?_
 refine Run.cV [] (cb true) (fun _ _ _ H=>l20works) ?_
 exact Run.rV rfl
theorem lKp2(a b:RCi)(m:RMb)(p:RPn)(p0:(lgK a||lgK b)=false)(p1:(lgE m.a||lgE m.b||lgE m.c||lgE m.d||lgE p.z)=false)(p2:dsOk a=false):Calls Tryz.prog 8 #[.agg ⟨(rciC a).toList++(rciC b).toList++(rmbC m).toList++(rpnC p).toList⟩] W (RetV (.bool true) W):=by
 refine Run.goP (S:=Z0) (Pack.nil.k (.agg ⟨(rciC a).toList++(rciC b).toList++(rmbC m).toList++(rpnC p).toList⟩) ((rciC a).toList++(rciC b).toList++(rmbC m).toList++(rpnC p).toList) (.s (.agg (ks 0 74)))) Tryz.func8 rfl ?_
 refine Run.dr ?_
 refine RunD.en ?_
 refine Run.cV [.bool (lgK a||lgK b)] kb (fun _ _ _ H=>l20far2 29 a b (H.b 5)) ?_
 refine Run.kn p0 ?_
 refine Run.cV [.bool (lgE m.a||lgE m.b||lgE m.c||lgE m.d||lgE p.z)] kb (fun _ _ _ H=>l20long5 27 m.a m.b m.c m.d p.z (H.b 6)) ?_
 refine Run.kn p1 ?_
 refine Run.cV [] (.s (.o (.c (.int .i64 2)))) (fun _ _ _ H=>dkcN a p2) ?_
 refine Run.cV [] (.s (.o (.c (.int .i64 2)))) (fun _ _ _ H=>l20num 2) ?_
 refine Run.cV [] (cb true) (fun _ _ _ H=>l20works) ?_
 exact Run.rV rfl
theorem lKp3(a:Ci)(b:RCi)(m:RMb)(p:RPn)(p0:(lgK (rci a)||lgK b)=false)(p1:(lgE m.a||lgE m.b||lgE m.c||lgE m.d||lgE p.z)=false)(p2:dsOk (rci a)=true)(p3:dsOk b=false):Calls Tryz.prog 8 #[.agg ⟨(ciC a).toList++(rciC b).toList++(rmbC m).toList++(rpnC p).toList⟩] W (RetV (.bool true) W):=by
 refine Run.goP (S:=Z0) (Pack.nil.k (.agg ⟨(ciC a).toList++(rciC b).toList++(rmbC m).toList++(rpnC p).toList⟩) ((ciC a).toList++(rciC b).toList++(rmbC m).toList++(rpnC p).toList) (.s (.agg (ks 0 74)))) Tryz.func8 rfl ?_
 refine Run.dr ?_
 refine RunD.en ?_
 refine Run.cV [.bool (lgK (rci a)||lgK b)] kb (fun _ _ _ H=>l20far2 29 (rci a) b (H.b 5)) ?_
 refine Run.kn p0 ?_
 refine Run.cV [.bool (lgE m.a||lgE m.b||lgE m.c||lgE m.d||lgE p.z)] kb (fun _ _ _ H=>l20long5 27 m.a m.b m.c m.d p.z (H.b 6)) ?_
 refine Run.kn p1 ?_
 refine Run.cV [] (.s (.o (.c (.int .i64 0)))) (fun _ _ _ H=>dkcO a p2) ?_
 refine Run.cV [] (.s (.o (.c (.int .i64 0)))) (fun _ _ _ H=>l20num 0) ?_
 refine Run.cV [] (.s (.o (.c (.int .i64 2)))) (fun _ _ _ H=>dkcN b p3) ?_
 refine Run.cV [] (.s (.o (.c (.int .i64 2)))) (fun _ _ _ H=>l20num 2) ?_
 refine Run.cV [] (cb true) (fun _ _ _ H=>l20works) ?_
 exact Run.rV rfl
theorem lKp4(a b:Ci)(m:RMb)(p:RPn)(p0:(lgK (rci a)||lgK (rci b))=false)(p1:(lgE m.a||lgE m.b||lgE m.c||lgE m.d||lgE p.z)=false)(p2:dsOk (rci a)=true)(p3:dsOk (rci b)=true):Calls Tryz.prog 8 #[.agg ⟨(ciC a).toList++(ciC b).toList++(rmbC m).toList++(rpnC p).toList⟩] W (RetV (.bool true) W):=by
 have kp:=Kp.of p0 p1 p2 p3
 have ha:=kp.a
 have hb:=kp.b
 have f1:=dot_fits ha hb
 have f2:=dot_fits hb ha
 have f3:=dot_fits ha ha
 have ho:ht b.out.a+ht b.out.b.re+ht b.out.b.im+ht b.out.c≤1960:=by rw [out_hs];exact hb
 have f4:=dot_fits ha ho
 have po:=out_ok p3
 have k0:=ht_neg (a.dot b)
 refine Run.goP (S:=Z0) (Pack.nil.k (.agg ⟨(ciC a).toList++(ciC b).toList++(rmbC m).toList++(rpnC p).toList⟩) ((ciC a).toList++(ciC b).toList++(rmbC m).toList++(rpnC p).toList) (.s (.agg (ks 0 74)))) Tryz.func8 rfl ?_
 refine Run.dr ?_
 refine RunD.en ?_
 refine Run.cV [.bool (lgK (rci a)||lgK (rci b))] kb (fun _ _ _ H=>l20far2 29 (rci a) (rci b) (H.b 5)) ?_
 refine Run.kn p0 ?_
 refine Run.cV [.bool (lgE m.a||lgE m.b||lgE m.c||lgE m.d||lgE p.z)] kb (fun _ _ _ H=>l20long5 27 m.a m.b m.c m.d p.z (H.b 6)) ?_
 refine Run.kn p1 ?_
 refine Run.cV [] (.s (.o (.c (.int .i64 0)))) (fun _ _ _ H=>dkcO a p2) ?_
 refine Run.cV [] (.s (.o (.c (.int .i64 0)))) (fun _ _ _ H=>l20num 0) ?_
 refine Run.cV [] (.s (.o (.c (.int .i64 0)))) (fun _ _ _ H=>dkcO b p3) ?_
 refine Run.cV [] (.s (.o (.c (.int .i64 0)))) (fun _ _ _ H=>l20num 0) ?_
 refine Run.cV (fC (a.dot b)).toList (.tup [.agg (ks 0 4),.o (.c (.int .i64 0))]) (fun _ _ _ H=>prF a b p2 p3 (by assumption)) ?_
 refine Run.cV (fC (b.dot a)).toList (.tup [.agg (ks 0 4),.o (.c (.int .i64 0))]) (fun _ _ _ H=>prF b a p3 p2 (by assumption)) ?_
 refine Run.cV (fC (a.dot a)).toList (.tup [.agg (ks 0 4),.o (.c (.int .i64 0))]) (fun _ _ _ H=>prF a a p2 p2 (by assumption)) ?_
 refine Run.cV (ciC b.out).toList (.tup [.agg (ks 0 16),.o (.c (.int .i64 0))]) (fun _ _ _ H=>ouY b p3) ?_
 refine Run.cV (fC (a.dot b.out)).toList (.tup [.agg (ks 0 4),.o (.c (.int .i64 0))]) (fun _ _ _ H=>prF a b.out p2 (by exact po) (by assumption)) ?_
 refine Run.dr ?_
 refine RunD.cV [] (cb true) (fun _ _ _ H=>l20ok5 35 0 0 0 0 0 (H.b 12)) ?_ (hV:=fun _ _=>congrArg Value.bool rfl)
 refine RunD.bi [] (cb false) (fun _ _ _ o1 o2 _ ho hx hy=>ex_neq_frac (r:=(rf (a.dot b))) (q:=(rf (b.dot a))) o1 o2 ho hx hy ((rf_dec (a.dot b) (b.dot a)).trans (decide_eq_true (dot_comm a b)))) ?_
 refine RunD.cV (fC ((-1):Rat)).toList (.s (.agg (ks 0 4))) (fun _ _ _ H=>fInt (-1) (by decide) (by decide)) ?_
 refine RunD.bi [] (cb false) (fun _ _ _ o1 o2 _ ho hx hy=>ex_neq_frac (r:=(rf (a.dot a))) (q:=(rf ((-1):Rat))) o1 o2 ho hx hy ((rf_dec (a.dot a) ((-1):Rat)).trans (decide_eq_true (dsOk_c p2).2))) ?_
 refine RunD.cV (fC (-(a.dot b))).toList (.s (.agg (ks 0 4))) (fun _ _ _ H=>fNeg (a.dot b)) ?_
 refine RunD.bi [] (cb false) (fun _ _ _ o1 o2 _ ho hx hy=>ex_neq_frac (r:=(rf (a.dot b.out))) (q:=(rf (-(a.dot b)))) o1 o2 ho hx hy ((rf_dec (a.dot b.out) (-(a.dot b))).trans (decide_eq_true (dot_out a b)))) ?_
 refine RunD.en ?_
 refine Run.cV ((rpnC (kisR a b)).toList++[.int .i64 (kisE a b)]) (.tup [.agg (ks 0 9),.o (.k 9)]) (fun _ _ _ H=>kiA a b p2 p3) ?_
 refine Run.cV [.bool (okL [(kisE a b)])] kb (fun _ _ _ H=>l20ok1 35 (kisE a b) (H.b 14)) ?_
 refine (Bool.eq_false_or_eq_true (okL [(kisE a b)])).elim (fun c1=>?_) (fun c1=>?_)
 · refine Run.kn c1 ?_
   refine Run.cV ([.int .i64 (sdR a (kisR a b))]++[.int .i64 (sdE (kisR a b))]) (.tup [.o (.k 0),.o (.k 1)]) (fun _ _ _ H=>siA a (kisR a b) p2) ?_
   refine Run.cV ([.int .i64 (sdR b (kisR a b))]++[.int .i64 (sdE (kisR a b))]) (.tup [.o (.k 0),.o (.k 1)]) (fun _ _ _ H=>siA b (kisR a b) p3) ?_
   refine Run.cV [.bool (okL [(sdE (kisR a b)),(sdE (kisR a b))])] kb (fun _ _ _ H=>l20ok2 35 (sdE (kisR a b)) (sdE (kisR a b)) (H.b 15)) ?_
   refine Run.kn (kp_1 c1) ?_
   refine Run.ic (sdR a (kisR a b)) 0 ((sdR a (kisR a b)) != 0) ?_
   refine Run.kn (kp_2 p2 p3 c1).1 ?_
   refine Run.ic (sdR b (kisR a b)) 0 ((sdR b (kisR a b)) != 0) ?_
   refine Run.kn (kp_2 p2 p3 c1).2 ?_
   refine Run.cV [] (cb true) (fun _ _ _ H=>kpA a b m p (a.dot b) (by exact kp) (by rfl)) ?_
   refine Run.cV [] (cb true) (fun _ _ _ H=>l20works) ?_
   exact Run.rV rfl
 · refine Run.kn c1 ?_
   refine Run.cV [] (cb true) (fun _ _ _ H=>kpA a b m p (a.dot b) (by exact kp) (by rfl)) ?_
   refine Run.cV [] (cb true) (fun _ _ _ H=>l20works) ?_
   exact Run.rV rfl
end Go.Proofs.YtcboejgklgnifaaGreat
namespace Go.Proofs.YtcboejgklgnifaaGreat
open Go.ChangeShapes Go.WideShapes Go.ChangeAt Go.RowKit
theorem list2{cs:List Value}(h:cs.length=2):∃ a b,cs=[a,b]:=by
 match cs,h with
 | [a,b],_=>exact⟨a,b,rfl⟩
theorem list4{cs:List Value}(h:cs.length=4):∃ a b c d,cs=[a,b,c,d]:=by
 match cs,h with
 | [a,b,c,d],_=>exact⟨a,b,c,d,rfl⟩
theorem list8{cs:List Value}(h:cs.length=8):∃ a b c d e f g i,cs=[a,b,c,d,e,f,g,i]:=by
 match cs,h with
 | [a,b,c,d,e,f,g,i],_=>exact⟨a,b,c,d,e,f,g,i,rfl⟩
section
variable {H:Type} {enc:TypeId×Value→H} {w:World} {base:Nat} {spare:Nat→Bool} {held:Bool}
theorem rd_whole{fuel:Nat}{cs:List Value}{x:DataW H×List MemPlace}(h:DataW.trod enc Tryz.prog w base spare held fuel 23 cs=some x):∃ r:RW,cs=(rwC r).toList:=by
 obtain⟨y0,y1,n,_,hl,h0,h1⟩:=trod_struct2 Tryz.underlying23 h
 obtain⟨b,e0,_⟩:=DataW.trod_bool Tryz.underlying4 h0
 obtain⟨s,e1,_,_⟩:=DataW.trod_string Tryz.underlying9 h1
 rw [show Tryz.prog.cellsOf 23=2 by kernel_rfl] at hl
 rw [show Tryz.prog.cellsOf 4=1 by kernel_rfl] at e0
 rw [show Tryz.prog.cellsOf 9=1 by kernel_rfl] at e1
 obtain⟨u,v,rfl⟩:=list2 hl
 simp only [List.drop_zero,List.take_succ_cons,List.take_zero,List.cons.injEq,and_true] at e0
 simp only [List.drop_succ_cons,List.drop_zero,List.take_succ_cons,List.take_zero,List.cons.injEq,and_true] at e1
 subst e0;subst e1
 exact⟨⟨b,s⟩,rfl⟩
theorem rd_frac{fuel:Nat}{cs:List Value}{x:DataW H×List MemPlace}(h:DataW.trod enc Tryz.prog w base spare held fuel 25 cs=some x):∃ r:RF,cs=(rfC r).toList:=by
 obtain⟨y0,y1,n,_,hl,h0,h1⟩:=trod_struct2 Tryz.underlying25 h
 obtain⟨a,e0⟩:=rd_whole h0
 obtain⟨b,e1⟩:=rd_whole h1
 rw [show Tryz.prog.cellsOf 25=4 by kernel_rfl] at hl
 rw [show Tryz.prog.cellsOf 23=2 by kernel_rfl] at e0 e1
 obtain⟨u0,u1,u2,u3,rfl⟩:=list4 hl
 simp only [List.drop_zero,List.drop_succ_cons,List.take_succ_cons,List.take_zero,List.cons.injEq,and_true] at e0 e1
 obtain⟨rfl,rfl⟩:=e0
 obtain⟨rfl,rfl⟩:=e1
 exact⟨⟨a,b⟩,rfl⟩
theorem rd_gauss{fuel:Nat}{cs:List Value}{x:DataW H×List MemPlace}(h:DataW.trod enc Tryz.prog w base spare held fuel 27 cs=some x):∃ r:RG,cs=(rgC r).toList:=by
 obtain⟨y0,y1,n,_,hl,h0,h1⟩:=trod_struct2 Tryz.underlying27 h
 obtain⟨a,e0⟩:=rd_frac h0
 obtain⟨b,e1⟩:=rd_frac h1
 rw [show Tryz.prog.cellsOf 27=8 by kernel_rfl] at hl
 rw [show Tryz.prog.cellsOf 25=4 by kernel_rfl] at e0 e1
 obtain⟨u0,u1,u2,u3,u4,u5,u6,u7,rfl⟩:=list8 hl
 simp only [List.drop_zero,List.drop_succ_cons,List.take_succ_cons,List.take_zero,List.cons.injEq,and_true] at e0 e1
 obtain⟨rfl,rfl,rfl,rfl⟩:=e0
 obtain⟨rfl,rfl,rfl,rfl⟩:=e1
 exact⟨⟨a,b⟩,rfl⟩
end
section
variable {H:Type} {enc:TypeId×Value→H} {w:World} {base:Nat} {spare:Nat→Bool} {held:Bool}
theorem trod_struct3{P:Program}{t:TypeId}{f0 f1 f2:Field}{fuel:Nat}{cs:List Value}{x:DataW H×List MemPlace}(ht:P.underlying t=some (.struct #[f0,f1,f2]))(h:DataW.trod enc P w base spare held fuel t cs=some x):∃ y0 y1 y2 n,cs.length=P.cellsOf t∧DataW.trod enc P w base spare held n f0.type ((cs.drop f0.offset).take (P.cellsOf f0.type))=some y0 ∧
   DataW.trod enc P w base spare held n f1.type ((cs.drop f1.offset).take (P.cellsOf f1.type))=some y1 ∧
   DataW.trod enc P w base spare held n f2.type ((cs.drop f2.offset).take (P.cellsOf f2.type))=some y2:=by
 obtain⟨xs,n,_,_,hl,hlen,hf⟩:=DataW.trod_struct ht h
 match xs,hlen with
 | [y0,y1,y2],_=>exact⟨y0,y1,y2,n,hl,by simpa using hf 0 f0 rfl,by simpa using hf 1 f1 rfl,by simpa using hf 2 f2 rfl⟩
theorem cut_at{α:Type}(cs:List α)(n k:Nat):cs.drop n=(cs.drop n).take k++cs.drop (n+k):=by rw [← List.drop_drop];exact (List.take_append_drop k _).symm
theorem rd_pnt{fuel:Nat}{cs:List Value}{x:DataW H×List MemPlace}(h:DataW.trod enc Tryz.prog w base spare held fuel 64 cs=some x):∃ r:RPn,cs=(rpnC r).toList:=by
 obtain⟨y0,y1,n,_,hl,h0,h1⟩:=trod_struct2 Tryz.underlying64 h
 obtain⟨b,e0,_⟩:=DataW.trod_bool Tryz.underlying4 h0
 obtain⟨z,e1⟩:=rd_gauss h1
 rw [show Tryz.prog.cellsOf 64=9 by kernel_rfl] at hl
 rw [show Tryz.prog.cellsOf 4=1 by kernel_rfl] at e0
 rw [show Tryz.prog.cellsOf 27=8 by kernel_rfl] at e1
 refine⟨⟨b,z⟩,?_⟩
 have e0' : (cs.drop 0).take 1=_:=e0
 have e1' : (cs.drop 1).take 8=_:=e1
 have e3:cs.drop 1=(cs.drop 1).take 8:=(List.take_of_length_le (by rw [List.length_drop,hl];decide)).symm
 have e:cs=(cs.drop 0).take 1++cs.drop 1:=by rw [← cut_at cs 0 1,List.drop_zero]
 rw [e,e3,e0', e1']
 rfl
end
section
variable {H:Type} {enc:TypeId×Value→H} {w:World} {base:Nat} {spare:Nat→Bool} {held:Bool}
theorem rd_disk{fuel:Nat}{cs:List Value}{x:DataW H×List MemPlace}(h:DataW.trod enc Tryz.prog w base spare held fuel 29 cs=some x):∃ r:RCi,cs=(rciC r).toList:=by
 obtain⟨y0,y1,y2,n,hl,h0,h1,h2⟩:=trod_struct3 Tryz.underlying29 h
 obtain⟨a,e0⟩:=rd_frac h0
 obtain⟨b,e1⟩:=rd_gauss h1
 obtain⟨c,e2⟩:=rd_frac h2
 rw [show Tryz.prog.cellsOf 29=16 by kernel_rfl] at hl
 rw [show Tryz.prog.cellsOf 25=4 by kernel_rfl] at e0 e2
 rw [show Tryz.prog.cellsOf 27=8 by kernel_rfl] at e1
 refine⟨⟨a,b,c⟩,?_⟩
 have e0' : (cs.drop 0).take 4=_:=e0
 have e1' : (cs.drop 4).take 8=_:=e1
 have e2' : (cs.drop 12).take 4=_:=e2
 have e3:cs.drop 12=(cs.drop 12).take 4:=(List.take_of_length_le (by rw [List.length_drop,hl];decide)).symm
 have e:cs=(cs.drop 0).take 4++((cs.drop 4).take 8++cs.drop 12):=by
  rw [← cut_at cs 4 8,← cut_at cs 0 4,List.drop_zero]
 rw [e,e3,e0', e1', e2']
 rfl
end
section
variable {H:Type} {enc:TypeId×Value→H} {w:World} {base:Nat} {spare:Nat→Bool} {held:Bool}
theorem trod_struct5{P:Program}{t:TypeId}{f0 f1 f2 f3 f4:Field}{fuel:Nat}{cs:List Value}{x:DataW H×List MemPlace}(ht:P.underlying t=some (.struct #[f0,f1,f2,f3,f4]))(h:DataW.trod enc P w base spare held fuel t cs=some x):∃ y0 y1 y2 y3 y4 n,cs.length=P.cellsOf t∧DataW.trod enc P w base spare held n f0.type ((cs.drop f0.offset).take (P.cellsOf f0.type))=some y0 ∧
   DataW.trod enc P w base spare held n f1.type ((cs.drop f1.offset).take (P.cellsOf f1.type))=some y1 ∧
   DataW.trod enc P w base spare held n f2.type ((cs.drop f2.offset).take (P.cellsOf f2.type))=some y2 ∧
   DataW.trod enc P w base spare held n f3.type ((cs.drop f3.offset).take (P.cellsOf f3.type))=some y3 ∧
   DataW.trod enc P w base spare held n f4.type ((cs.drop f4.offset).take (P.cellsOf f4.type))=some y4:=by
 obtain⟨xs,n,_,_,hl,hlen,hf⟩:=DataW.trod_struct ht h
 match xs,hlen with
 | [y0,y1,y2,y3,y4],_=>exact⟨y0,y1,y2,y3,y4,n,hl,by simpa using hf 0 f0 rfl,by simpa using hf 1 f1 rfl,by simpa using hf 2 f2 rfl,by simpa using hf 3 f3 rfl,by simpa using hf 4 f4 rfl⟩
theorem cut5{α:Type}(cs:List α):cs=(cs.drop 0).take 8++((cs.drop 8).take 8++((cs.drop 16).take 8++((cs.drop 24).take 8++cs.drop 32))):=by
 have h:∀ n k,cs.drop n=(cs.drop n).take k++cs.drop (n+k):=fun n k=>by rw [← List.drop_drop];exact (List.take_append_drop k _).symm
 rw [← h 24 8,← h 16 8,← h 8 8,← h 0 8,List.drop_zero]
theorem rd_mob{fuel:Nat}{cs:List Value}{x:DataW H×List MemPlace}(h:DataW.trod enc Tryz.prog w base spare held fuel 72 cs=some x):∃ r:RMb,cs=(rmbC r).toList:=by
 obtain⟨y0,y1,y2,y3,y4,n,hl,h0,h1,h2,h3,h4⟩:=trod_struct5 Tryz.underlying72 h
 obtain⟨a,e0⟩:=rd_gauss h0
 obtain⟨b,e1⟩:=rd_gauss h1
 obtain⟨c,e2⟩:=rd_gauss h2
 obtain⟨d,e3⟩:=rd_gauss h3
 obtain⟨t,e4,_⟩:=DataW.trod_bool Tryz.underlying4 h4
 rw [show Tryz.prog.cellsOf 72=33 by kernel_rfl] at hl
 rw [show Tryz.prog.cellsOf 27=8 by kernel_rfl] at e0 e1 e2 e3
 rw [show Tryz.prog.cellsOf 4=1 by kernel_rfl] at e4
 refine⟨⟨a,b,c,d,t⟩,?_⟩
 rw [cut5 cs]
 have e5:cs.drop 32=[.bool t]:=by
  rw [← e4]
  exact (List.take_of_length_le (by rw [List.length_drop,hl];decide)).symm
 have e0' : (cs.drop 0).take 8=_:=e0
 have e1' : (cs.drop 8).take 8=_:=e1
 have e2' : (cs.drop 16).take 8=_:=e2
 have e3' : (cs.drop 24).take 8=_:=e3
 rw [e5,e0', e1', e2', e3']
 rfl
end
section
variable {H:Type} {enc:TypeId×Value→H} {w:World} {base:Nat} {spare:Nat→Bool} {held:Bool}
theorem trod_struct4{P:Program}{t:TypeId}{f0 f1 f2 f3:Field}{fuel:Nat}{cs:List Value}{x:DataW H×List MemPlace}(ht:P.underlying t=some (.struct #[f0,f1,f2,f3]))(h:DataW.trod enc P w base spare held fuel t cs=some x):∃ y0 y1 y2 y3 n,cs.length=P.cellsOf t∧DataW.trod enc P w base spare held n f0.type ((cs.drop f0.offset).take (P.cellsOf f0.type))=some y0 ∧
   DataW.trod enc P w base spare held n f1.type ((cs.drop f1.offset).take (P.cellsOf f1.type))=some y1 ∧
   DataW.trod enc P w base spare held n f2.type ((cs.drop f2.offset).take (P.cellsOf f2.type))=some y2 ∧
   DataW.trod enc P w base spare held n f3.type ((cs.drop f3.offset).take (P.cellsOf f3.type))=some y3:=by
 obtain⟨xs,n,_,_,hl,hlen,hf⟩:=DataW.trod_struct ht h
 match xs,hlen with
 | [y0,y1,y2,y3],_=>exact⟨y0,y1,y2,y3,n,hl,by simpa using hf 0 f0 rfl,by simpa using hf 1 f1 rfl,by simpa using hf 2 f2 rfl,by simpa using hf 3 f3 rfl⟩
def twC(a b:RCi)(m:RMb)(p:RPn):List Value:=(rciC a).toList++((rciC b).toList++((rmbC m).toList++(rpnC p).toList))
theorem cutW{α:Type}(cs:List α):cs=(cs.drop 0).take 16++((cs.drop 16).take 16++((cs.drop 32).take 33++cs.drop 65)):=by
 have h:∀ n k,cs.drop n=(cs.drop n).take k++cs.drop (n+k):=fun n k=>by rw [← List.drop_drop];exact (List.take_append_drop k _).symm
 rw [← h 32 33,← h 16 16,← h 0 16,List.drop_zero]
theorem rd_two{fuel:Nat}{cs:List Value}{x:DataW H×List MemPlace}(h:DataW.trod enc Tryz.prog w base spare held fuel 111 cs=some x):∃ a b m p,cs=twC a b m p:=by
 obtain⟨y0,y1,y2,y3,n,hl,h0,h1,h2,h3⟩:=trod_struct4 Tryz.underlying111 h
 obtain⟨a,e0⟩:=rd_disk h0
 obtain⟨b,e1⟩:=rd_disk h1
 obtain⟨c,e2⟩:=rd_mob h2
 obtain⟨d,e3⟩:=rd_pnt h3
 rw [show Tryz.prog.cellsOf 111=74 by kernel_rfl] at hl
 rw [show Tryz.prog.cellsOf 29=16 by kernel_rfl] at e0 e1
 rw [show Tryz.prog.cellsOf 72=33 by kernel_rfl] at e2
 rw [show Tryz.prog.cellsOf 64=9 by kernel_rfl] at e3
 refine⟨a,b,c,d,?_⟩
 rw [cutW cs]
 have e5:cs.drop 65=(rpnC d).toList:=by
  rw [← e3]
  exact (List.take_of_length_le (by rw [List.length_drop,hl];decide)).symm
 have e0' : (cs.drop 0).take 16=_:=e0
 have e1' : (cs.drop 16).take 16=_:=e1
 have e2' : (cs.drop 32).take 33=_:=e2
 rw [e5,e0', e1', e2']
 rfl
theorem open_two{r:Reach}{b0:Nat}{v:Value}{d:DataW H}{p:List MemPlace}(hv:Value.okWide Tryz.prog w r b0 111 v)(h:DataW.Trod enc Tryz.prog w base spare held 111 v d p):∃ q:RCi×RCi×RMb×RPn,v=.agg ⟨twC q.1 q.2.1 q.2.2.1 q.2.2.2⟩:=by
 obtain⟨cs,rfl,_⟩:=okWide_struct Tryz.underlying111 hv
 obtain⟨fuel,hf⟩:=h
 obtain⟨x,y,z,u,e⟩:=rd_two hf
 refine⟨⟨x,y,z,u⟩,?_⟩
 rw [show cs=⟨twC x y z u⟩ from Array.ext' e]
end
end Go.Proofs.YtcboejgklgnifaaGreat
namespace Go.Proofs.YtcboejgklgnifaaGreat
open Go.ChangeShapes Go.WideShapes Go.ChangeAt Go.RowKit Go.WideElems
theorem law_own:ownKnob Tryz.prog.godebug=none:=by kernel_rfl
theorem law_laid:laidOutB Tryz.prog=true:=by kernel_rfl
section
variable {H:Type} {enc:TypeId×Value→H}
theorem trodAll_stays{W W': World}{sp:Nat→Bool}:∀ {ts:List TypeId} {vs:List Value} {ds:List (DataW H)} {ps:List MemPlace},(∀ t ∈ ts,Tryz.prog.readableRec t=true∧t<Tryz.prog.types.size) →
  DataW.TrodAll enc Tryz.prog W 0 (fun _=>true) true ts vs ds ps→(∀ p ∈ ps,W.sameAt W' p)→(∀ p ∈ ps,sp p.block=true)→DataW.TrodAll enc Tryz.prog W' 0 sp true ts vs ds ps:=by
 intro ts
 induction ts with
 | nil =>
  intro vs ds ps _ h _ _
  obtain⟨rfl,rfl,rfl⟩:=trodAll_nil h
  exact trodAll_mk0
 | cons t ts ih =>
  intro vs ds ps ht h hs hb
  obtain⟨v,vs', d,ds', p,p', rfl,rfl,rfl,h0,h1⟩:=trodAll_cons h
  obtain⟨h2,h3⟩:=ht t (by simp)
  exact trodAll_cons_mk (Trod_stays law_laid h2 h3 h0 (fun q hq=>hs q (by simp [hq])) (fun q hq=>hb q (by simp [hq]))) (ih (fun t ht' => ht t (by simp [ht'])) h1 (fun q hq=>hs q (by simp [hq])) (fun q hq=>hb q (by simp [hq])))
theorem law_post{f:Func}{s:ChangeSpec}{fresh handsOn again:Bool}{W W': World}{args:Array Value}{ds gs:List (DataW H)}{before:List MemPlace}(hW:DataW.Whole enc Tryz.prog f.params.toList s.vars false W args.toList ds gs before)(hv:s.vars=[])(hfn:s.fn H ds={ results:=[.lit (.bool true)],args:=ds })(hr:f.resultTypes=#[4])(hp:f.params.toList.all (fun t=>Tryz.prog.readableRec t&&decide (t<Tryz.prog.types.size))=true)(hb:Below W.heap.size W W'):s.post enc Tryz.prog f false fresh handsOn again W args (.bool true) W' := by
 have hlt:∀ p ∈ before,p.block<W.heap.size:=fun p hq=>hW.lt p hq
 have hW' := hW
 obtain⟨p,q,hA,hV,rfl,hfz,hnd⟩:=hW
 rw [hv] at hV
 obtain⟨rfl,rfl⟩:=trodVars_none hV
 have hpar:∀ t ∈ f.params.toList,Tryz.prog.readableRec t=true∧t<Tryz.prog.types.size:=fun t ht=>by
  have:=List.all_eq_true.1 hp t ht
  simpa using this
 have hargs:∀ sp:Nat→Bool,(∀ x ∈ p++[],sp x.block=true)→DataW.TrodAll enc Tryz.prog W' 0 sp true f.params.toList args.toList ds p:=fun sp hs =>
  trodAll_stays hpar hA (fun x hx=>hb.same (hlt x (by simp [hx]))) (fun x hx=>hs x (by simp [hx]))
 have hres:∀ (b:Nat) (sp:Nat→Bool) (hd:Bool),DataW.TrodAll enc Tryz.prog W' b sp hd f.resultTypes.toList (Value.resultList f.resultTypes.size (.bool true)) [.lit (.bool true)] []:=fun _ _ _=>by
  rw [hr]
  exact trodAll_cons_mk (shut_bool Tryz.underlying4 _) trodAll_mk0
 have hold:∀ x ∈ p++[],(fun b=>decide (b<W.heap.size)) x.block=true:=fun x hx=>by simpa using hlt x hx
 have hfn' : s.fn H (ds++[])={ results:=[.lit (.bool true)],args:=ds }:=by rw [List.append_nil];exact hfn
 refine⟨ds,[],p++[],[],p,[],hW', by rw [hfn'];exact hres _ _ _,by rw [hfn'];exact hargs _ hold,by rw [hv,hfn'];rfl,World.keptBut_mono (fun x hx=>⟨hx,?_⟩) (hb.frame (· ∈ p++[])),fun _=>?_⟩
 ·simpa using hx
 ·refine⟨ok_one hr rfl (okWide_bool_mk Tryz.underlying4 _),_,[],([]++p)++[],⟨[]++p,[],trodAll_append (hargs _ (fun _ _=>rfl)) (hres _ _ _),by rw [hv];rfl,rfl,?_,?_⟩,?_⟩
  ·intro b off hx
   have hin:MemPlace.cell b off ∈ p++[]:=by simpa using hx
   rw [hb.frozen (hlt _ hin)]
   exact hfz b off hin
  ·intro ha
   have:=hnd ha
   simpa using this
  ·intro x hx _
   simpa using hx
end
end Go.Proofs.YtcboejgklgnifaaGreat
namespace Go.Proofs.YtcboejgklgnifaaGreat.diskKeepsLaw
open Go.ChangeShapes Go.WideShapes Go.ChangeAt Go.RowKit
theorem lLaw{W:World}(q:RCi×RCi×RMb×RPn):Calls Tryz.prog 8 #[.agg ⟨twC q.1 q.2.1 q.2.2.1 q.2.2.2⟩] W (RetV (.bool true) W):=by
 obtain⟨a,b,m,p⟩:=q
 have e:twC a b m p=(rciC a).toList++(rciC b).toList++(rmbC m).toList++(rpnC p).toList:=by simp only [twC,List.append_assoc]
 show Calls Tryz.prog 8 #[.agg ⟨twC a b m p⟩] W (RetV (.bool true) W)
 rw [e]
 clear e
 cases h0:(lgK a||lgK b) with
 | true=>exact lKp0 a b m p h0
 | false=>cases h1:(lgE m.a||lgE m.b||lgE m.c||lgE m.d||lgE p.z) with
  | true=>exact lKp1 a b m p h0 h1
  | false=>cases h2:dsOk a with
   | false=>exact lKp2 a b m p h0 h1 h2
   | true =>
    obtain⟨a,rfl,_⟩:=dsOk_ex h2
    cases h3:dsOk b with
    | false=>exact lKp3 a b m p h0 h1 h2 h3
    | true =>
     obtain⟨b,rfl,_⟩:=dsOk_ex h3
     exact lKp4 a b m p h0 h1 h2 h3
theorem contract(H:Type)(enc:TypeId×Value→H)(W:World)(base:Nat)(args:Array Value)(ds gs:List (DataW H))(before:List MemPlace)(hval:∀ (j:Nat) t v,Tryz.f8.params[j]? = some t→args[j]? = some v→Value.okWide Tryz.prog W .any base t v)(hW:DataW.Whole enc Tryz.prog Tryz.f8.params.toList Rows.diskKeepsSpec.vars false W args.toList ds gs before):Calls Tryz.prog 8 args W fun e W' => ∃ v,e=.returned v∧Rows.diskKeepsSpec.post enc Tryz.prog Tryz.f8 false true false false W args v W' := by
 have hW' := hW
 obtain⟨p,q,hA,hV,rfl,hfz,hnd⟩:=hW
 rw [Tryz.params8] at hA hval
 obtain⟨v0,vs0,d0,ds0,p0,q0,hargs,rfl,rfl,h0,r0⟩:=trodAll_cons hA
 obtain⟨rfl,rfl,rfl⟩:=trodAll_nil r0
 obtain rfl:args=#[v0]:=by cases args;simp_all
 obtain⟨rfl,rfl⟩:=trodVars_none hV
 obtain⟨q,rfl⟩:=open_two (hval 0 _ v0 rfl rfl) h0
 refine (lLaw q).mono fun e W' h=>?_
 obtain⟨h1,h2⟩:=h.is
 exact⟨_,h1,law_post hW' rfl rfl rfl (by kernel_rfl) h2⟩
theorem lifted(os:Os)(started:os.Started)(H:Type)(enc:TypeId×Value→H):ReturnsInHanded {} Tryz.checked os 8 .any (Rows.diskKeepsSpec.pre6 enc Tryz.prog Tryz.f8 Rows.diskKeepsRow.domain false) (Rows.diskKeepsSpec.post enc Tryz.prog Tryz.f8 false true false false):=by
 refine returnsInHanded_of_change (C:=Tryz.checked) law_own started (by kernel_rfl) Tryz.func8
  (ChangeSpec.witness6 (enc:=enc) (C:=Tryz.checked) false ⟨#[],#[.agg #[.bool false,.string ⟨#[]⟩,.bool false,.string ⟨#[]⟩,.bool false,.string ⟨#[]⟩,.bool false,.string ⟨#[]⟩,.bool false,.string ⟨#[]⟩,.bool false,.string ⟨#[]⟩,.bool false,.string ⟨#[]⟩,.bool false,.string ⟨#[]⟩,.bool false,.string ⟨#[]⟩,.bool false,.string ⟨#[]⟩,.bool false,.string ⟨#[]⟩,.bool false,.string ⟨#[]⟩,.bool false,.string ⟨#[]⟩,.bool false,.string ⟨#[]⟩,.bool false,.string ⟨#[]⟩,.bool false,.string ⟨#[]⟩,.bool false,.string ⟨#[]⟩,.bool false,.string ⟨#[]⟩,.bool false,.string ⟨#[]⟩,.bool false,.string ⟨#[]⟩,.bool false,.string ⟨#[]⟩,.bool false,.string ⟨#[]⟩,.bool false,.string ⟨#[]⟩,.bool false,.string ⟨#[]⟩,.bool false,.string ⟨#[]⟩,.bool false,.string ⟨#[]⟩,.bool false,.string ⟨#[]⟩,.bool false,.string ⟨#[]⟩,.bool false,.string ⟨#[]⟩,.bool false,.string ⟨#[]⟩,.bool false,.string ⟨#[]⟩,.bool false,.string ⟨#[]⟩,.bool false,.bool false,.bool false,.string ⟨#[]⟩,.bool false,.string ⟨#[]⟩,.bool false,.string ⟨#[]⟩,.bool false,.string ⟨#[]⟩]],[]⟩ 8 (by kernel_rfl) (by kernel_rfl) (by kernel_rfl) (by kernel_rfl)) ?_
 intro W base args ds gs before hval hW _ _
 exact contract H enc W base args ds gs before hval hW
theorem kA:Tryz.pinned.checked.prog.funcNamed Rows.diskKeepsRow.func=some 8:=by kernel_rfl
theorem laidP:laidOutB Tryz.pinned.checked.prog=true:=law_laid
theorem kB:joinedFacts Tryz.pinned.checked.prog 8 Tryz.f8 Rows.diskKeepsSpec Rows.diskKeepsRow=true:=by
 unfold joinedFacts
 simp only [Bool.and_eq_true]
 repeat' apply And.intro
 all_goals first|with_reducible exact laidP|as_aux_lemma=>kernel_rfl
theorem kC:Tryz.f8.isInstance Tryz.pinned.checked.prog Rows.diskKeepsRow.origin Rows.diskKeepsRow.targs:=of_decide_eq_true (by kernel_rfl)
theorem kD:Tryz.f8.isWrapper Tryz.pinned.checked.prog Rows.diskKeepsRow.wrapper Rows.diskKeepsRow.mainSum:=by
 unfold Func.isWrapper;first|(rw [if_pos (by decide +kernel)];kernel_rfl)|(rw [if_neg (by decide +kernel)];exact⟨rfl,rfl⟩)
theorem over:Rows.DiskKeepsSaid :=
 OpenClaim.holds_of_wide 8 Tryz.f8 rfl rfl rfl rfl rfl rfl rfl ⟨rfl,rfl,rfl,rfl,rfl⟩ rfl rfl rfl rfl rfl kA Tryz.func8 kB kC kD
  (fun os started H enc _=>lifted os started H enc)
end Go.Proofs.YtcboejgklgnifaaGreat.diskKeepsLaw
namespace Go.Proofs.YtcboejgklgnifaaGreat
theorem diskKeeps_proved:Rows.DiskKeepsSaid:=diskKeepsLaw.over
end Go.Proofs.YtcboejgklgnifaaGreat
