/- tracerylaw20.DiskMakes returns true for any numbers, and changes nothing that it was handed. No condition. -/
import Derived.Test.YtcboejgklgnifaaGreatP06
import Derived.ProofKit
import Derived.OpenShut
import Derived.JoinedCond
import Derived.Deep.Slices
import Derived.Deep.Strs
import Derived.Test.YtcboejgklgnifaaGreatRows
import Derived.WalkKit
import Derived.Below
import Derived.ChangeSame
import Derived.WideKeyArgs
import Derived.JoinedOf
import Derived.JoinedAt
set_option linter.unusedVariables false
set_option linter.unusedSimpArgs false
set_option maxHeartbeats 8000000
set_option maxRecDepth 100000
namespace Go.Proofs.YtcboejgklgnifaaGreat
open Go.RowKit Rgn Eng
variable {S:Nat→Prop} {W:World}
def IsOk(d:RCi)(e:Int)(w:RCi)(k:Int):Prop:=(∃ u:Ci,d=cicut u∧e=cierr u∧w=rci u∧k=0)∨(d=rzCi∧e=k∧(k == 0)=false)
theorem isW0(d:RCi)(e:Int)(w:RCi)(k:Int)(p0:IsOk d e w k):Calls Tryz.prog 47 #[rciV d,.int .i64 e,rciV w,.int .i64 k] W (RetV (.bool true) W):=by
 rcases p0 with⟨u,rfl,rfl,rfl,rfl⟩|⟨h1,h2,h3⟩
 ·exact isC u
 ·exact isN d e w k h3 h1 h2
noncomputable def chW(c:RCi):Int:=if ciOk c=true then 0 else 2
theorem c11ChkW(c:RCi):Calls Tryz.prog 50 #[rciV c] W (RetV (.int .i64 (chW c)) W):=by
 unfold chW
 cases h:ciOk c with
 | false=>simpa using c11ChkN c h
 | true =>
  obtain⟨d,rfl,-⟩:=ciOk_ex h
  simpa using c11ChkO d h
theorem chW_1{c:RCi}(h:(chW c != 0)=false):ciOk c=true:=by
 unfold chW at h
 cases g:ciOk c with
 | true=>rfl
 | false=>rw [g] at h;exact absurd h (by decide)
theorem chW_0{c:RCi}(h:(chW c != 0)=true):ciOk c=false:=by
 unfold chW at h
 cases g:ciOk c with
 | false=>rfl
 | true=>rw [g] at h;exact absurd h (by decide)
section
variable {z n:RG} {x:RF} {w c:RCi} {s:Int}
theorem io_r1(h:gmay z=false):IsOk (roR z x) (roE z x) w 2:=by unfold roR roE;rw [h];exact .inr ⟨rfl,rfl,rfl⟩
theorem io_r2(h:fmay x=false):IsOk (roR z x) (roE z x) w 2:=by unfold roR roE;rw [h,Bool.and_false];exact .inr ⟨rfl,rfl,rfl⟩
theorem io_r3(h:gmay z=true)(h2:fmay x=true)(h3:((valM x).num.sign == 0)=true):IsOk (roR z x) (roE z x) w 5:=by
 unfold roR roE;rw [h,h2,h3];exact .inr ⟨rfl,rfl,rfl⟩
theorem io_r4(h:gmay z=true)(h2:fmay x=true)(h3:((valM x).num.sign == 0)=false):IsOk (roR z x) (roE z x) (rci (roD (gvm z) (valM x))) 0:=by
 unfold roR roE;rw [h,h2,h3];exact .inl ⟨_,rfl,rfl,rfl,rfl⟩
theorem io_h1(h:gmay n=false):IsOk (hfR n z) (hfE n z) w 2:=by unfold hfR hfE;rw [h];exact .inr ⟨rfl,rfl,rfl⟩
theorem io_h2(h:gmay z=false):IsOk (hfR n z) (hfE n z) w 2:=by unfold hfR hfE;rw [h,Bool.and_false];exact .inr ⟨rfl,rfl,rfl⟩
theorem io_h3(h:gmay n=true)(h2:gmay z=true)(h3:(gvm n).zero=true):IsOk (hfR n z) (hfE n z) w 5:=by
 unfold hfR hfE;rw [h,h2,h3];exact .inr ⟨rfl,rfl,rfl⟩
theorem io_h4(h:gmay n=true)(h2:gmay z=true)(h3:(gvm n).zero=false)(h4:isSq (gvm n).norm=false):IsOk (hfR n z) (hfE n z) w 7:=by
 unfold hfR hfE;rw [h,h2,h3,h4];exact .inr ⟨rfl,rfl,rfl⟩
theorem io_h5(h:gmay n=true)(h2:gmay z=true)(h3:(gvm n).zero=false)(h4:isSq (gvm n).norm=true):IsOk (hfR n z) (hfE n z) (rci (hfD (gvm n) (gvm z))) 0:=by
 unfold hfR hfE;rw [h,h2,h3,h4];exact .inl ⟨_,rfl,rfl,rfl,rfl⟩
theorem io_o1(h:(chW c != 0)=true):IsOk (ofR c s) (ofE c s) w 2:=by unfold ofR ofE;rw [chW_0 h];exact .inr ⟨rfl,rfl,rfl⟩
theorem io_o2(h1:(s != 1)=true)(h2:(s != (-1))=true):IsOk (ofR c s) (ofE c s) w 2:=by
 have e:¬ (s=1∨s=-1):=fun e=>e.elim (bne_iff_ne.1 h1) (bne_iff_ne.1 h2)
 unfold ofR ofE;rw [if_neg e,if_neg e,ite_self,ite_self];exact .inr ⟨rfl,rfl,rfl⟩
theorem sd_1(h:(s != 1)=false):s=1∨s=-1:=.inl (by simpa using h)
theorem sd_2(h:(s != (-1))=false):s=1∨s=-1:=.inr (by simpa using h)
theorem io_o3(h:(chW c != 0)=false)(h1:s=1∨s=-1)(h2:isSq (cvm c).pow=false):IsOk (ofR c s) (ofE c s) w 7:=by
 unfold ofR ofE;rw [chW_1 h,h2,if_pos h1,if_pos h1];exact .inr ⟨rfl,rfl,rfl⟩
theorem io_o4(h:(chW c != 0)=false)(h1:s=1∨s=-1)(h2:isSq (cvm c).pow=true):IsOk (ofR c s) (ofE c s) (rci (ofD (cvm c) s)) 0:=by
 unfold ofR ofE;rw [chW_1 h,h2,if_pos h1,if_pos h1];exact .inl ⟨_,rfl,rfl,rfl,rfl⟩
noncomputable def hwR(n z:RG):RCi:=if isSq (gvm n).norm=true then rci (hfD (gvm n) (gvm z)) else rzCi
noncomputable def owR(c:RCi)(s:Int):RCi:=if isSq (cvm c).pow=true then rci (ofD (cvm c) s) else rzCi
theorem rdHfW(n z:RG)(p0:gmay n=true)(p1:gmay z=true)(p2:(gvm n).zero=false):Calls Tryz.prog 49 #[rgV n,rgV z] W (RetV (.tuple #[rciV (hwR n z),.bool (isSq (gvm n).norm)]) W):=by
 unfold hwR
 cases h:isSq (gvm n).norm with
 | true=>exact rdHfA n z p0 p1 p2 h
 | false=>exact rdHfB n z p0 p1 p2 h
theorem rdOfW0(c:RCi)(s:Int)(p0:(chW c != 0)=false)(p1:s=1∨s=-1):Calls Tryz.prog 51 #[rciV c,.int .i64 s] W (RetV (.tuple #[rciV (owR c s),.bool (isSq (cvm c).pow)]) W):=by
 unfold owR
 cases h:isSq (cvm c).pow with
 | true=>exact rdOfA c s (chW_1 p0) p1 h
 | false=>exact rdOfB c s (chW_1 p0) p1 h
theorem io_h6(h:gmay n=true)(h2:gmay z=true)(h3:(gvm n).zero=false)(h4:isSq (gvm n).norm=true):IsOk (hfR n z) (hfE n z) (hwR n z) 0:=by
 have:=io_h5 h h2 h3 h4
 unfold hwR;rwa [if_pos h4]
theorem io_o5(h:(chW c != 0)=false)(h1:s=1∨s=-1)(h2:isSq (cvm c).pow=true):IsOk (ofR c s) (ofE c s) (owR c s) 0:=by
 have:=io_o4 h h1 h2
 unfold owR;rwa [if_pos h2]
end
theorem isW(d:RCi)(e:Int)(w:RCi)(k:Int)(p0:IsOk d e w k:=by first|exact io_r1 (by assumption)|exact io_r2 (by assumption)|exact io_r3 (by assumption) (by assumption) (by assumption)|exact io_r4 (by assumption) (by assumption) (by assumption)|exact io_h1 (by assumption)|exact io_h2 (by assumption)|exact io_h3 (by assumption) (by assumption) (by assumption)|exact io_h4 (by assumption) (by assumption) (by assumption) (by assumption)|exact io_h6 (by assumption) (by assumption) (by assumption) (by assumption)|exact io_o1 (by assumption)|exact io_o2 (by assumption) (by assumption)|exact io_o3 (by assumption) (sd_1 (by assumption)) (by assumption)|exact io_o3 (by assumption) (sd_2 (by assumption)) (by assumption)|exact io_o5 (by assumption) (sd_1 (by assumption)) (by assumption)|exact io_o5 (by assumption) (sd_2 (by assumption)) (by assumption)):Calls Tryz.prog 47 #[rciV d,.int .i64 e,rciV w,.int .i64 k] W (RetV (.bool true) W):=isW0 d e w k p0
theorem rdOfW(c:RCi)(s:Int)(p0:(chW c != 0)=false)(p1:s=1∨s=-1:=by first|exact sd_1 (by assumption)|exact sd_2 (by assumption)):Calls Tryz.prog 51 #[rciV c,.int .i64 s] W (RetV (.tuple #[rciV (owR c s),.bool (isSq (cvm c).pow)]) W):=rdOfW0 c s p0 p1
theorem l20long3{b0:Nat}(T0:TypeId)(a b c:RG)(B0:W.heap[b0]? = some (.cells (⟨(rgC a).toList++((rgC b).toList++((rgC c).toList))⟩) T0 (0,0))):Calls Tryz.prog 38 #[.slice (some ⟨b0,0,none⟩) 3 3] W (RetV (.bool (lgE a||lgE b||lgE c)) W):=by
 refine Run.goP (S:=Z0) (Pack.nil.b B0 (some 3) 24) Tryz.func38 rfl ?_
 refine Run.cV [.bool (lgD a.re)] kb (fun _ _ _ H=>l20longF a.re) ?_
 refine (Bool.eq_false_or_eq_true (lgD a.re)).elim (fun c1=>?_) (fun c1=>?_)
 · refine Run.kn c1 ?_
   exact Run.rV (V' := .bool true) ((congrArg Value.bool (by simp [lgE,c1])))
 · refine Run.kn c1 ?_
   refine Run.cV [.bool (lgD a.im)] kb (fun _ _ _ H=>l20longF a.im) ?_
   refine (Bool.eq_false_or_eq_true (lgD a.im)).elim (fun c2=>?_) (fun c2=>?_)
   · refine Run.kn c2 ?_
     exact Run.rV (V' := .bool true) ((congrArg Value.bool (by simp [lgE,c1,c2])))
   · refine Run.kn c2 ?_
     refine Run.cV [.bool (lgD b.re)] kb (fun _ _ _ H=>l20longF b.re) ?_
     refine (Bool.eq_false_or_eq_true (lgD b.re)).elim (fun c3=>?_) (fun c3=>?_)
     · refine Run.kn c3 ?_
       exact Run.rV (V' := .bool true) ((congrArg Value.bool (by simp [lgE,c1,c2,c3])))
     · refine Run.kn c3 ?_
       refine Run.cV [.bool (lgD b.im)] kb (fun _ _ _ H=>l20longF b.im) ?_
       refine (Bool.eq_false_or_eq_true (lgD b.im)).elim (fun c4=>?_) (fun c4=>?_)
       · refine Run.kn c4 ?_
         exact Run.rV (V' := .bool true) ((congrArg Value.bool (by simp [lgE,c1,c2,c3,c4])))
       · refine Run.kn c4 ?_
         refine Run.cV [.bool (lgD c.re)] kb (fun _ _ _ H=>l20longF c.re) ?_
         refine (Bool.eq_false_or_eq_true (lgD c.re)).elim (fun c5=>?_) (fun c5=>?_)
         · refine Run.kn c5 ?_
           exact Run.rV (V' := .bool true) ((congrArg Value.bool (by simp [lgE,c1,c2,c3,c4,c5])))
         · refine Run.kn c5 ?_
           refine Run.cV [.bool (lgD c.im)] kb (fun _ _ _ H=>l20longF c.im) ?_
           refine (Bool.eq_false_or_eq_true (lgD c.im)).elim (fun c6=>?_) (fun c6=>?_)
           · refine Run.kn c6 ?_
             exact Run.rV (V' := .bool true) ((congrArg Value.bool (by simp [lgE,c1,c2,c3,c4,c5,c6])))
           · refine Run.kn c6 ?_
             exact Run.rV (V' := .bool false) ((congrArg Value.bool (by simp [lgE,c1,c2,c3,c4,c5,c6])))
theorem lDmL0(z w:RG)(x:RF)(c:RCi)(s:Int)(p0:(lgE z||lgE w||lgE c.b)=true):Calls Tryz.prog 6 #[.agg ⟨(rgC z).toList++(rgC w).toList++(rfC x).toList++(rciC c).toList++[.int .i64 s]⟩] W (RetV (.bool true) W):=by
 refine Run.goP (S:=Z0) (Pack.nil.k (.agg ⟨(rgC z).toList++(rgC w).toList++(rfC x).toList++(rciC c).toList++[.int .i64 s]⟩) ((rgC z).toList++(rgC w).toList++(rfC x).toList++(rciC c).toList++[.int .i64 s]) (.s (.agg (ks 0 37)))) Tryz.func6 rfl ?_
 refine Run.cV [.bool (lgE z||lgE w||lgE c.b)] kb (fun _ _ _ H=>l20long3 27 z w c.b (H.b 1)) ?_
 refine Run.kn p0 ?_
 refine Run.cV [] (cb true) (fun _ _ _ H=>l20works) ?_
 exact Run.rV rfl
theorem lDmL1(z w:RG)(x:RF)(c:RCi)(s:Int)(p0:(lgE z||lgE w||lgE c.b)=false)(p1:lgD x=true):Calls Tryz.prog 6 #[.agg ⟨(rgC z).toList++(rgC w).toList++(rfC x).toList++(rciC c).toList++[.int .i64 s]⟩] W (RetV (.bool true) W):=by
 refine Run.goP (S:=Z0) (Pack.nil.k (.agg ⟨(rgC z).toList++(rgC w).toList++(rfC x).toList++(rciC c).toList++[.int .i64 s]⟩) ((rgC z).toList++(rgC w).toList++(rfC x).toList++(rciC c).toList++[.int .i64 s]) (.s (.agg (ks 0 37)))) Tryz.func6 rfl ?_
 refine Run.cV [.bool (lgE z||lgE w||lgE c.b)] kb (fun _ _ _ H=>l20long3 27 z w c.b (H.b 1)) ?_
 refine Run.kn p0 ?_
 refine Run.cV [.bool (lgD x)] kb (fun _ _ _ H=>l20longF x) ?_
 refine Run.kn p1 ?_
 refine Run.cV [] (cb true) (fun _ _ _ H=>l20works) ?_
 exact Run.rV rfl
theorem lDmL2(z w:RG)(x:RF)(c:RCi)(s:Int)(p0:(lgE z||lgE w||lgE c.b)=false)(p1:lgD x=false)(p2:lgD c.a=true):Calls Tryz.prog 6 #[.agg ⟨(rgC z).toList++(rgC w).toList++(rfC x).toList++(rciC c).toList++[.int .i64 s]⟩] W (RetV (.bool true) W):=by
 refine Run.goP (S:=Z0) (Pack.nil.k (.agg ⟨(rgC z).toList++(rgC w).toList++(rfC x).toList++(rciC c).toList++[.int .i64 s]⟩) ((rgC z).toList++(rgC w).toList++(rfC x).toList++(rciC c).toList++[.int .i64 s]) (.s (.agg (ks 0 37)))) Tryz.func6 rfl ?_
 refine Run.cV [.bool (lgE z||lgE w||lgE c.b)] kb (fun _ _ _ H=>l20long3 27 z w c.b (H.b 1)) ?_
 refine Run.kn p0 ?_
 refine Run.cV [.bool (lgD x)] kb (fun _ _ _ H=>l20longF x) ?_
 refine Run.kn p1 ?_
 refine Run.cV [.bool (lgD c.a)] kb (fun _ _ _ H=>l20longF c.a) ?_
 refine Run.kn p2 ?_
 refine Run.cV [] (cb true) (fun _ _ _ H=>l20works) ?_
 exact Run.rV rfl
theorem lDmL3(z w:RG)(x:RF)(c:RCi)(s:Int)(p0:(lgE z||lgE w||lgE c.b)=false)(p1:lgD x=false)(p2:lgD c.a=false)(p3:lgD c.c=true):Calls Tryz.prog 6 #[.agg ⟨(rgC z).toList++(rgC w).toList++(rfC x).toList++(rciC c).toList++[.int .i64 s]⟩] W (RetV (.bool true) W):=by
 refine Run.goP (S:=Z0) (Pack.nil.k (.agg ⟨(rgC z).toList++(rgC w).toList++(rfC x).toList++(rciC c).toList++[.int .i64 s]⟩) ((rgC z).toList++(rgC w).toList++(rfC x).toList++(rciC c).toList++[.int .i64 s]) (.s (.agg (ks 0 37)))) Tryz.func6 rfl ?_
 refine Run.cV [.bool (lgE z||lgE w||lgE c.b)] kb (fun _ _ _ H=>l20long3 27 z w c.b (H.b 1)) ?_
 refine Run.kn p0 ?_
 refine Run.cV [.bool (lgD x)] kb (fun _ _ _ H=>l20longF x) ?_
 refine Run.kn p1 ?_
 refine Run.cV [.bool (lgD c.a)] kb (fun _ _ _ H=>l20longF c.a) ?_
 refine Run.kn p2 ?_
 refine Run.cV [.bool (lgD c.c)] kb (fun _ _ _ H=>l20longF c.c) ?_
 refine Run.kn p3 ?_
 refine Run.cV [] (cb true) (fun _ _ _ H=>l20works) ?_
 exact Run.rV rfl
theorem lDmZ(z w:RG)(x:RF)(c:RCi)(s:Int)(p0:(lgE z||lgE w||lgE c.b)=false)(p1:lgD x=false)(p2:lgD c.a=false)(p3:lgD c.c=false)(p4:gmay z=false):Calls Tryz.prog 6 #[.agg ⟨(rgC z).toList++(rgC w).toList++(rfC x).toList++(rciC c).toList++[.int .i64 s]⟩] W (RetV (.bool true) W):=by
 refine Run.goP (S:=Z0) (Pack.nil.k (.agg ⟨(rgC z).toList++(rgC w).toList++(rfC x).toList++(rciC c).toList++[.int .i64 s]⟩) ((rgC z).toList++(rgC w).toList++(rfC x).toList++(rciC c).toList++[.int .i64 s]) (.s (.agg (ks 0 37)))) Tryz.func6 rfl ?_
 refine Run.cV [.bool (lgE z||lgE w||lgE c.b)] kb (fun _ _ _ H=>l20long3 27 z w c.b (H.b 1)) ?_
 refine Run.kn p0 ?_
 refine Run.cV [.bool (lgD x)] kb (fun _ _ _ H=>l20longF x) ?_
 refine Run.kn p1 ?_
 refine Run.cV [.bool (lgD c.a)] kb (fun _ _ _ H=>l20longF c.a) ?_
 refine Run.kn p2 ?_
 refine Run.cV [.bool (lgD c.c)] kb (fun _ _ _ H=>l20longF c.c) ?_
 refine Run.kn p3 ?_
 refine Run.cV ((rciC (roR z x)).toList++[.int .i64 (roE z x)]) (.tup [.agg (ks 0 16),.o (.k 16)]) (fun _ _ _ H=>roA z x) ?_
 refine Run.cV ((rciC (hfR z w)).toList++[.int .i64 (hfE z w)]) (.tup [.agg (ks 0 16),.o (.k 16)]) (fun _ _ _ H=>hfA z w) ?_
 refine Run.cV ((rciC (ofR c s)).toList++[.int .i64 (ofE c s)]) (.tup [.agg (ks 0 16),.o (.k 16)]) (fun _ _ _ H=>ofA c s) ?_
 refine Run.dr ?_
 refine RunD.cV [] (cb false) (fun _ _ _ H=>cMay z) ?_ (hV:=fun _ _=>congrArg Value.bool p4)
 refine RunD.cV [.bool (gmay w)] kb (fun _ _ _ H=>cMay w) ?_
 refine RunD.en ?_
 refine Run.cV [] (cb true) (fun _ _ _ H=>isW (roR z x) (roE z x) rzCi 2) ?_
 refine Run.cV [] (cb true) (fun _ _ _ H=>isW (hfR z w) (hfE z w) rzCi 2) ?_
 refine Run.cV [.int .i64 (chW c)] kb (fun _ _ _ H=>c11ChkW c) ?_
 refine Run.ic (chW c) 0 ((chW c) != 0) ?_
 refine (Bool.eq_false_or_eq_true ((chW c) != 0)).elim (fun c1=>?_) (fun c1=>?_)
 · refine Run.kn c1 ?_
   refine Run.cV [] (cb true) (fun _ _ _ H=>isW (ofR c s) (ofE c s) rzCi 2) ?_
   refine Run.cV [] (cb true) (fun _ _ _ H=>l20works) ?_
   exact Run.rV rfl
 · refine Run.kn c1 ?_
   refine Run.ic s 1 (s != 1) ?_
   refine (Bool.eq_false_or_eq_true (s != 1)).elim (fun c2=>?_) (fun c2=>?_)
   · refine Run.kn c2 ?_
     refine Run.ic s (-1) (s != (-1)) ?_
     refine (Bool.eq_false_or_eq_true (s != (-1))).elim (fun c3=>?_) (fun c3=>?_)
     · refine Run.kn c3 ?_
       refine Run.cV [] (cb true) (fun _ _ _ H=>isW (ofR c s) (ofE c s) rzCi 2) ?_
       refine Run.cV [] (cb true) (fun _ _ _ H=>l20works) ?_
       exact Run.rV rfl
     · refine Run.kn c3 ?_
       refine Run.cV ((rciC (owR c s)).toList++[.bool (isSq (cvm c).pow)]) (.tup [.agg (ks 0 16),.o (.k 16)]) (fun _ _ _ H=>rdOfW c s c1) ?_
       refine (Bool.eq_false_or_eq_true (isSq (cvm c).pow)).elim (fun c4=>?_) (fun c4=>?_)
       · refine Run.kn c4 ?_
         refine Run.cV [] (cb true) (fun _ _ _ H=>isW (ofR c s) (ofE c s) (owR c s) 0) ?_
         refine Run.cV [] (cb true) (fun _ _ _ H=>l20works) ?_
         exact Run.rV rfl
       · refine Run.kn c4 ?_
         refine Run.cV [] (cb true) (fun _ _ _ H=>isW (ofR c s) (ofE c s) rzCi 7) ?_
         refine Run.cV [] (cb true) (fun _ _ _ H=>l20works) ?_
         exact Run.rV rfl
   · refine Run.kn c2 ?_
     refine Run.cV ((rciC (owR c s)).toList++[.bool (isSq (cvm c).pow)]) (.tup [.agg (ks 0 16),.o (.k 16)]) (fun _ _ _ H=>rdOfW c s c1) ?_
     refine (Bool.eq_false_or_eq_true (isSq (cvm c).pow)).elim (fun c5=>?_) (fun c5=>?_)
     · refine Run.kn c5 ?_
       refine Run.cV [] (cb true) (fun _ _ _ H=>isW (ofR c s) (ofE c s) (owR c s) 0) ?_
       refine Run.cV [] (cb true) (fun _ _ _ H=>l20works) ?_
       exact Run.rV rfl
     · refine Run.kn c5 ?_
       refine Run.cV [] (cb true) (fun _ _ _ H=>isW (ofR c s) (ofE c s) rzCi 7) ?_
       refine Run.cV [] (cb true) (fun _ _ _ H=>l20works) ?_
       exact Run.rV rfl
theorem lDm00(z w:RG)(x:RF)(c:RCi)(s:Int)(p0:(lgE z||lgE w||lgE c.b)=false)(p1:lgD x=false)(p2:lgD c.a=false)(p3:lgD c.c=false)(p4:gmay z=true)(p5:fmay x=false)(p6:gmay w=false):Calls Tryz.prog 6 #[.agg ⟨(rgC z).toList++(rgC w).toList++(rfC x).toList++(rciC c).toList++[.int .i64 s]⟩] W (RetV (.bool true) W):=by
 refine Run.goP (S:=Z0) (Pack.nil.k (.agg ⟨(rgC z).toList++(rgC w).toList++(rfC x).toList++(rciC c).toList++[.int .i64 s]⟩) ((rgC z).toList++(rgC w).toList++(rfC x).toList++(rciC c).toList++[.int .i64 s]) (.s (.agg (ks 0 37)))) Tryz.func6 rfl ?_
 refine Run.cV [.bool (lgE z||lgE w||lgE c.b)] kb (fun _ _ _ H=>l20long3 27 z w c.b (H.b 1)) ?_
 refine Run.kn p0 ?_
 refine Run.cV [.bool (lgD x)] kb (fun _ _ _ H=>l20longF x) ?_
 refine Run.kn p1 ?_
 refine Run.cV [.bool (lgD c.a)] kb (fun _ _ _ H=>l20longF c.a) ?_
 refine Run.kn p2 ?_
 refine Run.cV [.bool (lgD c.c)] kb (fun _ _ _ H=>l20longF c.c) ?_
 refine Run.kn p3 ?_
 refine Run.cV ((rciC (roR z x)).toList++[.int .i64 (roE z x)]) (.tup [.agg (ks 0 16),.o (.k 16)]) (fun _ _ _ H=>roA z x) ?_
 refine Run.cV ((rciC (hfR z w)).toList++[.int .i64 (hfE z w)]) (.tup [.agg (ks 0 16),.o (.k 16)]) (fun _ _ _ H=>hfA z w) ?_
 refine Run.cV ((rciC (ofR c s)).toList++[.int .i64 (ofE c s)]) (.tup [.agg (ks 0 16),.o (.k 16)]) (fun _ _ _ H=>ofA c s) ?_
 refine Run.dr ?_
 refine RunD.cV [] (cb true) (fun _ _ _ H=>cMay z) ?_ (hV:=fun _ _=>congrArg Value.bool p4)
 refine RunD.cV [] (cb false) (fun _ _ _ H=>cMay w) ?_ (hV:=fun _ _=>congrArg Value.bool p6)
 refine RunD.en ?_
 refine Run.cV [.bool (fmay x)] kb (fun _ _ _ H=>fMay x) ?_
 refine Run.kn p5 ?_
 refine Run.cV [] (cb true) (fun _ _ _ H=>isW (roR z x) (roE z x) rzCi 2) ?_
 refine Run.cV [] (cb true) (fun _ _ _ H=>isW (hfR z w) (hfE z w) rzCi 2) ?_
 refine Run.cV [.int .i64 (chW c)] kb (fun _ _ _ H=>c11ChkW c) ?_
 refine Run.ic (chW c) 0 ((chW c) != 0) ?_
 refine (Bool.eq_false_or_eq_true ((chW c) != 0)).elim (fun c1=>?_) (fun c1=>?_)
 · refine Run.kn c1 ?_
   refine Run.cV [] (cb true) (fun _ _ _ H=>isW (ofR c s) (ofE c s) rzCi 2) ?_
   refine Run.cV [] (cb true) (fun _ _ _ H=>l20works) ?_
   exact Run.rV rfl
 · refine Run.kn c1 ?_
   refine Run.ic s 1 (s != 1) ?_
   refine (Bool.eq_false_or_eq_true (s != 1)).elim (fun c2=>?_) (fun c2=>?_)
   · refine Run.kn c2 ?_
     refine Run.ic s (-1) (s != (-1)) ?_
     refine (Bool.eq_false_or_eq_true (s != (-1))).elim (fun c3=>?_) (fun c3=>?_)
     · refine Run.kn c3 ?_
       refine Run.cV [] (cb true) (fun _ _ _ H=>isW (ofR c s) (ofE c s) rzCi 2) ?_
       refine Run.cV [] (cb true) (fun _ _ _ H=>l20works) ?_
       exact Run.rV rfl
     · refine Run.kn c3 ?_
       refine Run.cV ((rciC (owR c s)).toList++[.bool (isSq (cvm c).pow)]) (.tup [.agg (ks 0 16),.o (.k 16)]) (fun _ _ _ H=>rdOfW c s c1) ?_
       refine (Bool.eq_false_or_eq_true (isSq (cvm c).pow)).elim (fun c4=>?_) (fun c4=>?_)
       · refine Run.kn c4 ?_
         refine Run.cV [] (cb true) (fun _ _ _ H=>isW (ofR c s) (ofE c s) (owR c s) 0) ?_
         refine Run.cV [] (cb true) (fun _ _ _ H=>l20works) ?_
         exact Run.rV rfl
       · refine Run.kn c4 ?_
         refine Run.cV [] (cb true) (fun _ _ _ H=>isW (ofR c s) (ofE c s) rzCi 7) ?_
         refine Run.cV [] (cb true) (fun _ _ _ H=>l20works) ?_
         exact Run.rV rfl
   · refine Run.kn c2 ?_
     refine Run.cV ((rciC (owR c s)).toList++[.bool (isSq (cvm c).pow)]) (.tup [.agg (ks 0 16),.o (.k 16)]) (fun _ _ _ H=>rdOfW c s c1) ?_
     refine (Bool.eq_false_or_eq_true (isSq (cvm c).pow)).elim (fun c5=>?_) (fun c5=>?_)
     · refine Run.kn c5 ?_
       refine Run.cV [] (cb true) (fun _ _ _ H=>isW (ofR c s) (ofE c s) (owR c s) 0) ?_
       refine Run.cV [] (cb true) (fun _ _ _ H=>l20works) ?_
       exact Run.rV rfl
     · refine Run.kn c5 ?_
       refine Run.cV [] (cb true) (fun _ _ _ H=>isW (ofR c s) (ofE c s) rzCi 7) ?_
       refine Run.cV [] (cb true) (fun _ _ _ H=>l20works) ?_
       exact Run.rV rfl
theorem lDm01(z w:RG)(x:RF)(c:RCi)(s:Int)(p0:(lgE z||lgE w||lgE c.b)=false)(p1:lgD x=false)(p2:lgD c.a=false)(p3:lgD c.c=false)(p4:gmay z=true)(p5:fmay x=false)(p6:gmay w=true)(p7:(gvm z).zero=true):Calls Tryz.prog 6 #[.agg ⟨(rgC z).toList++(rgC w).toList++(rfC x).toList++(rciC c).toList++[.int .i64 s]⟩] W (RetV (.bool true) W):=by
 refine Run.goP (S:=Z0) (Pack.nil.k (.agg ⟨(rgC z).toList++(rgC w).toList++(rfC x).toList++(rciC c).toList++[.int .i64 s]⟩) ((rgC z).toList++(rgC w).toList++(rfC x).toList++(rciC c).toList++[.int .i64 s]) (.s (.agg (ks 0 37)))) Tryz.func6 rfl ?_
 refine Run.cV [.bool (lgE z||lgE w||lgE c.b)] kb (fun _ _ _ H=>l20long3 27 z w c.b (H.b 1)) ?_
 refine Run.kn p0 ?_
 refine Run.cV [.bool (lgD x)] kb (fun _ _ _ H=>l20longF x) ?_
 refine Run.kn p1 ?_
 refine Run.cV [.bool (lgD c.a)] kb (fun _ _ _ H=>l20longF c.a) ?_
 refine Run.kn p2 ?_
 refine Run.cV [.bool (lgD c.c)] kb (fun _ _ _ H=>l20longF c.c) ?_
 refine Run.kn p3 ?_
 refine Run.cV ((rciC (roR z x)).toList++[.int .i64 (roE z x)]) (.tup [.agg (ks 0 16),.o (.k 16)]) (fun _ _ _ H=>roA z x) ?_
 refine Run.cV ((rciC (hfR z w)).toList++[.int .i64 (hfE z w)]) (.tup [.agg (ks 0 16),.o (.k 16)]) (fun _ _ _ H=>hfA z w) ?_
 refine Run.cV ((rciC (ofR c s)).toList++[.int .i64 (ofE c s)]) (.tup [.agg (ks 0 16),.o (.k 16)]) (fun _ _ _ H=>ofA c s) ?_
 refine Run.dr ?_
 refine RunD.cV [] (cb true) (fun _ _ _ H=>cMay z) ?_ (hV:=fun _ _=>congrArg Value.bool p4)
 refine RunD.cV [] (cb true) (fun _ _ _ H=>cMay w) ?_ (hV:=fun _ _=>congrArg Value.bool p6)
 refine RunD.en ?_
 refine Run.cV [.bool (fmay x)] kb (fun _ _ _ H=>fMay x) ?_
 refine Run.kn p5 ?_
 refine Run.cV [] (cb true) (fun _ _ _ H=>isW (roR z x) (roE z x) rzCi 2) ?_
 refine Run.cV [.bool ((gvm z).zero)] kb (fun _ _ _ H=>cZeroA z p4) ?_
 refine Run.kn p7 ?_
 refine Run.cV [] (cb true) (fun _ _ _ H=>isW (hfR z w) (hfE z w) rzCi 5) ?_
 refine Run.cV [.int .i64 (chW c)] kb (fun _ _ _ H=>c11ChkW c) ?_
 refine Run.ic (chW c) 0 ((chW c) != 0) ?_
 refine (Bool.eq_false_or_eq_true ((chW c) != 0)).elim (fun c1=>?_) (fun c1=>?_)
 · refine Run.kn c1 ?_
   refine Run.cV [] (cb true) (fun _ _ _ H=>isW (ofR c s) (ofE c s) rzCi 2) ?_
   refine Run.cV [] (cb true) (fun _ _ _ H=>l20works) ?_
   exact Run.rV rfl
 · refine Run.kn c1 ?_
   refine Run.ic s 1 (s != 1) ?_
   refine (Bool.eq_false_or_eq_true (s != 1)).elim (fun c2=>?_) (fun c2=>?_)
   · refine Run.kn c2 ?_
     refine Run.ic s (-1) (s != (-1)) ?_
     refine (Bool.eq_false_or_eq_true (s != (-1))).elim (fun c3=>?_) (fun c3=>?_)
     · refine Run.kn c3 ?_
       refine Run.cV [] (cb true) (fun _ _ _ H=>isW (ofR c s) (ofE c s) rzCi 2) ?_
       refine Run.cV [] (cb true) (fun _ _ _ H=>l20works) ?_
       exact Run.rV rfl
     · refine Run.kn c3 ?_
       refine Run.cV ((rciC (owR c s)).toList++[.bool (isSq (cvm c).pow)]) (.tup [.agg (ks 0 16),.o (.k 16)]) (fun _ _ _ H=>rdOfW c s c1) ?_
       refine (Bool.eq_false_or_eq_true (isSq (cvm c).pow)).elim (fun c4=>?_) (fun c4=>?_)
       · refine Run.kn c4 ?_
         refine Run.cV [] (cb true) (fun _ _ _ H=>isW (ofR c s) (ofE c s) (owR c s) 0) ?_
         refine Run.cV [] (cb true) (fun _ _ _ H=>l20works) ?_
         exact Run.rV rfl
       · refine Run.kn c4 ?_
         refine Run.cV [] (cb true) (fun _ _ _ H=>isW (ofR c s) (ofE c s) rzCi 7) ?_
         refine Run.cV [] (cb true) (fun _ _ _ H=>l20works) ?_
         exact Run.rV rfl
   · refine Run.kn c2 ?_
     refine Run.cV ((rciC (owR c s)).toList++[.bool (isSq (cvm c).pow)]) (.tup [.agg (ks 0 16),.o (.k 16)]) (fun _ _ _ H=>rdOfW c s c1) ?_
     refine (Bool.eq_false_or_eq_true (isSq (cvm c).pow)).elim (fun c5=>?_) (fun c5=>?_)
     · refine Run.kn c5 ?_
       refine Run.cV [] (cb true) (fun _ _ _ H=>isW (ofR c s) (ofE c s) (owR c s) 0) ?_
       refine Run.cV [] (cb true) (fun _ _ _ H=>l20works) ?_
       exact Run.rV rfl
     · refine Run.kn c5 ?_
       refine Run.cV [] (cb true) (fun _ _ _ H=>isW (ofR c s) (ofE c s) rzCi 7) ?_
       refine Run.cV [] (cb true) (fun _ _ _ H=>l20works) ?_
       exact Run.rV rfl
theorem lDm02(z w:RG)(x:RF)(c:RCi)(s:Int)(p0:(lgE z||lgE w||lgE c.b)=false)(p1:lgD x=false)(p2:lgD c.a=false)(p3:lgD c.c=false)(p4:gmay z=true)(p5:fmay x=false)(p6:gmay w=true)(p7:(gvm z).zero=false)(p8:isSq (gvm z).norm=false):Calls Tryz.prog 6 #[.agg ⟨(rgC z).toList++(rgC w).toList++(rfC x).toList++(rciC c).toList++[.int .i64 s]⟩] W (RetV (.bool true) W):=by
 refine Run.goP (S:=Z0) (Pack.nil.k (.agg ⟨(rgC z).toList++(rgC w).toList++(rfC x).toList++(rciC c).toList++[.int .i64 s]⟩) ((rgC z).toList++(rgC w).toList++(rfC x).toList++(rciC c).toList++[.int .i64 s]) (.s (.agg (ks 0 37)))) Tryz.func6 rfl ?_
 refine Run.cV [.bool (lgE z||lgE w||lgE c.b)] kb (fun _ _ _ H=>l20long3 27 z w c.b (H.b 1)) ?_
 refine Run.kn p0 ?_
 refine Run.cV [.bool (lgD x)] kb (fun _ _ _ H=>l20longF x) ?_
 refine Run.kn p1 ?_
 refine Run.cV [.bool (lgD c.a)] kb (fun _ _ _ H=>l20longF c.a) ?_
 refine Run.kn p2 ?_
 refine Run.cV [.bool (lgD c.c)] kb (fun _ _ _ H=>l20longF c.c) ?_
 refine Run.kn p3 ?_
 refine Run.cV ((rciC (roR z x)).toList++[.int .i64 (roE z x)]) (.tup [.agg (ks 0 16),.o (.k 16)]) (fun _ _ _ H=>roA z x) ?_
 refine Run.cV ((rciC (hfR z w)).toList++[.int .i64 (hfE z w)]) (.tup [.agg (ks 0 16),.o (.k 16)]) (fun _ _ _ H=>hfA z w) ?_
 refine Run.cV ((rciC (ofR c s)).toList++[.int .i64 (ofE c s)]) (.tup [.agg (ks 0 16),.o (.k 16)]) (fun _ _ _ H=>ofA c s) ?_
 refine Run.dr ?_
 refine RunD.cV [] (cb true) (fun _ _ _ H=>cMay z) ?_ (hV:=fun _ _=>congrArg Value.bool p4)
 refine RunD.cV [] (cb true) (fun _ _ _ H=>cMay w) ?_ (hV:=fun _ _=>congrArg Value.bool p6)
 refine RunD.en ?_
 refine Run.cV [.bool (fmay x)] kb (fun _ _ _ H=>fMay x) ?_
 refine Run.kn p5 ?_
 refine Run.cV [] (cb true) (fun _ _ _ H=>isW (roR z x) (roE z x) rzCi 2) ?_
 refine Run.cV [.bool ((gvm z).zero)] kb (fun _ _ _ H=>cZeroA z p4) ?_
 refine Run.kn p7 ?_
 refine Run.cV ((rciC (hwR z w)).toList++[.bool (isSq (gvm z).norm)]) (.tup [.agg (ks 0 16),.o (.k 16)]) (fun _ _ _ H=>rdHfW z w p4 p6 p7) ?_
 refine Run.kn p8 ?_
 refine Run.cV [] (cb true) (fun _ _ _ H=>isW (hfR z w) (hfE z w) (hwR z w) 7) ?_
 refine Run.cV [.int .i64 (chW c)] kb (fun _ _ _ H=>c11ChkW c) ?_
 refine Run.ic (chW c) 0 ((chW c) != 0) ?_
 refine (Bool.eq_false_or_eq_true ((chW c) != 0)).elim (fun c1=>?_) (fun c1=>?_)
 · refine Run.kn c1 ?_
   refine Run.cV [] (cb true) (fun _ _ _ H=>isW (ofR c s) (ofE c s) rzCi 2) ?_
   refine Run.cV [] (cb true) (fun _ _ _ H=>l20works) ?_
   exact Run.rV rfl
 · refine Run.kn c1 ?_
   refine Run.ic s 1 (s != 1) ?_
   refine (Bool.eq_false_or_eq_true (s != 1)).elim (fun c2=>?_) (fun c2=>?_)
   · refine Run.kn c2 ?_
     refine Run.ic s (-1) (s != (-1)) ?_
     refine (Bool.eq_false_or_eq_true (s != (-1))).elim (fun c3=>?_) (fun c3=>?_)
     · refine Run.kn c3 ?_
       refine Run.cV [] (cb true) (fun _ _ _ H=>isW (ofR c s) (ofE c s) rzCi 2) ?_
       refine Run.cV [] (cb true) (fun _ _ _ H=>l20works) ?_
       exact Run.rV rfl
     · refine Run.kn c3 ?_
       refine Run.cV ((rciC (owR c s)).toList++[.bool (isSq (cvm c).pow)]) (.tup [.agg (ks 0 16),.o (.k 16)]) (fun _ _ _ H=>rdOfW c s c1) ?_
       refine (Bool.eq_false_or_eq_true (isSq (cvm c).pow)).elim (fun c4=>?_) (fun c4=>?_)
       · refine Run.kn c4 ?_
         refine Run.cV [] (cb true) (fun _ _ _ H=>isW (ofR c s) (ofE c s) (owR c s) 0) ?_
         refine Run.cV [] (cb true) (fun _ _ _ H=>l20works) ?_
         exact Run.rV rfl
       · refine Run.kn c4 ?_
         refine Run.cV [] (cb true) (fun _ _ _ H=>isW (ofR c s) (ofE c s) rzCi 7) ?_
         refine Run.cV [] (cb true) (fun _ _ _ H=>l20works) ?_
         exact Run.rV rfl
   · refine Run.kn c2 ?_
     refine Run.cV ((rciC (owR c s)).toList++[.bool (isSq (cvm c).pow)]) (.tup [.agg (ks 0 16),.o (.k 16)]) (fun _ _ _ H=>rdOfW c s c1) ?_
     refine (Bool.eq_false_or_eq_true (isSq (cvm c).pow)).elim (fun c5=>?_) (fun c5=>?_)
     · refine Run.kn c5 ?_
       refine Run.cV [] (cb true) (fun _ _ _ H=>isW (ofR c s) (ofE c s) (owR c s) 0) ?_
       refine Run.cV [] (cb true) (fun _ _ _ H=>l20works) ?_
       exact Run.rV rfl
     · refine Run.kn c5 ?_
       refine Run.cV [] (cb true) (fun _ _ _ H=>isW (ofR c s) (ofE c s) rzCi 7) ?_
       refine Run.cV [] (cb true) (fun _ _ _ H=>l20works) ?_
       exact Run.rV rfl
theorem lDm03(z w:RG)(x:RF)(c:RCi)(s:Int)(p0:(lgE z||lgE w||lgE c.b)=false)(p1:lgD x=false)(p2:lgD c.a=false)(p3:lgD c.c=false)(p4:gmay z=true)(p5:fmay x=false)(p6:gmay w=true)(p7:(gvm z).zero=false)(p8:isSq (gvm z).norm=true):Calls Tryz.prog 6 #[.agg ⟨(rgC z).toList++(rgC w).toList++(rfC x).toList++(rciC c).toList++[.int .i64 s]⟩] W (RetV (.bool true) W):=by
 refine Run.goP (S:=Z0) (Pack.nil.k (.agg ⟨(rgC z).toList++(rgC w).toList++(rfC x).toList++(rciC c).toList++[.int .i64 s]⟩) ((rgC z).toList++(rgC w).toList++(rfC x).toList++(rciC c).toList++[.int .i64 s]) (.s (.agg (ks 0 37)))) Tryz.func6 rfl ?_
 refine Run.cV [.bool (lgE z||lgE w||lgE c.b)] kb (fun _ _ _ H=>l20long3 27 z w c.b (H.b 1)) ?_
 refine Run.kn p0 ?_
 refine Run.cV [.bool (lgD x)] kb (fun _ _ _ H=>l20longF x) ?_
 refine Run.kn p1 ?_
 refine Run.cV [.bool (lgD c.a)] kb (fun _ _ _ H=>l20longF c.a) ?_
 refine Run.kn p2 ?_
 refine Run.cV [.bool (lgD c.c)] kb (fun _ _ _ H=>l20longF c.c) ?_
 refine Run.kn p3 ?_
 refine Run.cV ((rciC (roR z x)).toList++[.int .i64 (roE z x)]) (.tup [.agg (ks 0 16),.o (.k 16)]) (fun _ _ _ H=>roA z x) ?_
 refine Run.cV ((rciC (hfR z w)).toList++[.int .i64 (hfE z w)]) (.tup [.agg (ks 0 16),.o (.k 16)]) (fun _ _ _ H=>hfA z w) ?_
 refine Run.cV ((rciC (ofR c s)).toList++[.int .i64 (ofE c s)]) (.tup [.agg (ks 0 16),.o (.k 16)]) (fun _ _ _ H=>ofA c s) ?_
 refine Run.dr ?_
 refine RunD.cV [] (cb true) (fun _ _ _ H=>cMay z) ?_ (hV:=fun _ _=>congrArg Value.bool p4)
 refine RunD.cV [] (cb true) (fun _ _ _ H=>cMay w) ?_ (hV:=fun _ _=>congrArg Value.bool p6)
 refine RunD.en ?_
 refine Run.cV [.bool (fmay x)] kb (fun _ _ _ H=>fMay x) ?_
 refine Run.kn p5 ?_
 refine Run.cV [] (cb true) (fun _ _ _ H=>isW (roR z x) (roE z x) rzCi 2) ?_
 refine Run.cV [.bool ((gvm z).zero)] kb (fun _ _ _ H=>cZeroA z p4) ?_
 refine Run.kn p7 ?_
 refine Run.cV ((rciC (hwR z w)).toList++[.bool (isSq (gvm z).norm)]) (.tup [.agg (ks 0 16),.o (.k 16)]) (fun _ _ _ H=>rdHfW z w p4 p6 p7) ?_
 refine Run.kn p8 ?_
 refine Run.cV [] (cb true) (fun _ _ _ H=>isW (hfR z w) (hfE z w) (hwR z w) 0) ?_
 refine Run.cV [.int .i64 (chW c)] kb (fun _ _ _ H=>c11ChkW c) ?_
 refine Run.ic (chW c) 0 ((chW c) != 0) ?_
 refine (Bool.eq_false_or_eq_true ((chW c) != 0)).elim (fun c1=>?_) (fun c1=>?_)
 · refine Run.kn c1 ?_
   refine Run.cV [] (cb true) (fun _ _ _ H=>isW (ofR c s) (ofE c s) rzCi 2) ?_
   refine Run.cV [] (cb true) (fun _ _ _ H=>l20works) ?_
   exact Run.rV rfl
 · refine Run.kn c1 ?_
   refine Run.ic s 1 (s != 1) ?_
   refine (Bool.eq_false_or_eq_true (s != 1)).elim (fun c2=>?_) (fun c2=>?_)
   · refine Run.kn c2 ?_
     refine Run.ic s (-1) (s != (-1)) ?_
     refine (Bool.eq_false_or_eq_true (s != (-1))).elim (fun c3=>?_) (fun c3=>?_)
     · refine Run.kn c3 ?_
       refine Run.cV [] (cb true) (fun _ _ _ H=>isW (ofR c s) (ofE c s) rzCi 2) ?_
       refine Run.cV [] (cb true) (fun _ _ _ H=>l20works) ?_
       exact Run.rV rfl
     · refine Run.kn c3 ?_
       refine Run.cV ((rciC (owR c s)).toList++[.bool (isSq (cvm c).pow)]) (.tup [.agg (ks 0 16),.o (.k 16)]) (fun _ _ _ H=>rdOfW c s c1) ?_
       refine (Bool.eq_false_or_eq_true (isSq (cvm c).pow)).elim (fun c4=>?_) (fun c4=>?_)
       · refine Run.kn c4 ?_
         refine Run.cV [] (cb true) (fun _ _ _ H=>isW (ofR c s) (ofE c s) (owR c s) 0) ?_
         refine Run.cV [] (cb true) (fun _ _ _ H=>l20works) ?_
         exact Run.rV rfl
       · refine Run.kn c4 ?_
         refine Run.cV [] (cb true) (fun _ _ _ H=>isW (ofR c s) (ofE c s) rzCi 7) ?_
         refine Run.cV [] (cb true) (fun _ _ _ H=>l20works) ?_
         exact Run.rV rfl
   · refine Run.kn c2 ?_
     refine Run.cV ((rciC (owR c s)).toList++[.bool (isSq (cvm c).pow)]) (.tup [.agg (ks 0 16),.o (.k 16)]) (fun _ _ _ H=>rdOfW c s c1) ?_
     refine (Bool.eq_false_or_eq_true (isSq (cvm c).pow)).elim (fun c5=>?_) (fun c5=>?_)
     · refine Run.kn c5 ?_
       refine Run.cV [] (cb true) (fun _ _ _ H=>isW (ofR c s) (ofE c s) (owR c s) 0) ?_
       refine Run.cV [] (cb true) (fun _ _ _ H=>l20works) ?_
       exact Run.rV rfl
     · refine Run.kn c5 ?_
       refine Run.cV [] (cb true) (fun _ _ _ H=>isW (ofR c s) (ofE c s) rzCi 7) ?_
       refine Run.cV [] (cb true) (fun _ _ _ H=>l20works) ?_
       exact Run.rV rfl
theorem lDm10(z w:RG)(x:RF)(c:RCi)(s:Int)(p0:(lgE z||lgE w||lgE c.b)=false)(p1:lgD x=false)(p2:lgD c.a=false)(p3:lgD c.c=false)(p4:gmay z=true)(p5:fmay x=true)(p6:((valM x).num.sign == 0)=true)(p7:gmay w=false):Calls Tryz.prog 6 #[.agg ⟨(rgC z).toList++(rgC w).toList++(rfC x).toList++(rciC c).toList++[.int .i64 s]⟩] W (RetV (.bool true) W):=by
 refine Run.goP (S:=Z0) (Pack.nil.k (.agg ⟨(rgC z).toList++(rgC w).toList++(rfC x).toList++(rciC c).toList++[.int .i64 s]⟩) ((rgC z).toList++(rgC w).toList++(rfC x).toList++(rciC c).toList++[.int .i64 s]) (.s (.agg (ks 0 37)))) Tryz.func6 rfl ?_
 refine Run.cV [.bool (lgE z||lgE w||lgE c.b)] kb (fun _ _ _ H=>l20long3 27 z w c.b (H.b 1)) ?_
 refine Run.kn p0 ?_
 refine Run.cV [.bool (lgD x)] kb (fun _ _ _ H=>l20longF x) ?_
 refine Run.kn p1 ?_
 refine Run.cV [.bool (lgD c.a)] kb (fun _ _ _ H=>l20longF c.a) ?_
 refine Run.kn p2 ?_
 refine Run.cV [.bool (lgD c.c)] kb (fun _ _ _ H=>l20longF c.c) ?_
 refine Run.kn p3 ?_
 refine Run.cV ((rciC (roR z x)).toList++[.int .i64 (roE z x)]) (.tup [.agg (ks 0 16),.o (.k 16)]) (fun _ _ _ H=>roA z x) ?_
 refine Run.cV ((rciC (hfR z w)).toList++[.int .i64 (hfE z w)]) (.tup [.agg (ks 0 16),.o (.k 16)]) (fun _ _ _ H=>hfA z w) ?_
 refine Run.cV ((rciC (ofR c s)).toList++[.int .i64 (ofE c s)]) (.tup [.agg (ks 0 16),.o (.k 16)]) (fun _ _ _ H=>ofA c s) ?_
 refine Run.dr ?_
 refine RunD.cV [] (cb true) (fun _ _ _ H=>cMay z) ?_ (hV:=fun _ _=>congrArg Value.bool p4)
 refine RunD.cV [] (cb false) (fun _ _ _ H=>cMay w) ?_ (hV:=fun _ _=>congrArg Value.bool p7)
 refine RunD.en ?_
 refine Run.cV [.bool (fmay x)] kb (fun _ _ _ H=>fMay x) ?_
 refine Run.kn p5 ?_
 refine Run.cV [.int .i64 ((valM x).num.sign)] kb (fun _ _ _ H=>fSignA x p5) ?_
 refine Run.ic ((valM x).num.sign) 0 (((valM x).num.sign) == 0) ?_
 refine Run.kn p6 ?_
 refine Run.cV [] (cb true) (fun _ _ _ H=>isW (roR z x) (roE z x) rzCi 5) ?_
 refine Run.cV [] (cb true) (fun _ _ _ H=>isW (hfR z w) (hfE z w) rzCi 2) ?_
 refine Run.cV [.int .i64 (chW c)] kb (fun _ _ _ H=>c11ChkW c) ?_
 refine Run.ic (chW c) 0 ((chW c) != 0) ?_
 refine (Bool.eq_false_or_eq_true ((chW c) != 0)).elim (fun c1=>?_) (fun c1=>?_)
 · refine Run.kn c1 ?_
   refine Run.cV [] (cb true) (fun _ _ _ H=>isW (ofR c s) (ofE c s) rzCi 2) ?_
   refine Run.cV [] (cb true) (fun _ _ _ H=>l20works) ?_
   exact Run.rV rfl
 · refine Run.kn c1 ?_
   refine Run.ic s 1 (s != 1) ?_
   refine (Bool.eq_false_or_eq_true (s != 1)).elim (fun c2=>?_) (fun c2=>?_)
   · refine Run.kn c2 ?_
     refine Run.ic s (-1) (s != (-1)) ?_
     refine (Bool.eq_false_or_eq_true (s != (-1))).elim (fun c3=>?_) (fun c3=>?_)
     · refine Run.kn c3 ?_
       refine Run.cV [] (cb true) (fun _ _ _ H=>isW (ofR c s) (ofE c s) rzCi 2) ?_
       refine Run.cV [] (cb true) (fun _ _ _ H=>l20works) ?_
       exact Run.rV rfl
     · refine Run.kn c3 ?_
       refine Run.cV ((rciC (owR c s)).toList++[.bool (isSq (cvm c).pow)]) (.tup [.agg (ks 0 16),.o (.k 16)]) (fun _ _ _ H=>rdOfW c s c1) ?_
       refine (Bool.eq_false_or_eq_true (isSq (cvm c).pow)).elim (fun c4=>?_) (fun c4=>?_)
       · refine Run.kn c4 ?_
         refine Run.cV [] (cb true) (fun _ _ _ H=>isW (ofR c s) (ofE c s) (owR c s) 0) ?_
         refine Run.cV [] (cb true) (fun _ _ _ H=>l20works) ?_
         exact Run.rV rfl
       · refine Run.kn c4 ?_
         refine Run.cV [] (cb true) (fun _ _ _ H=>isW (ofR c s) (ofE c s) rzCi 7) ?_
         refine Run.cV [] (cb true) (fun _ _ _ H=>l20works) ?_
         exact Run.rV rfl
   · refine Run.kn c2 ?_
     refine Run.cV ((rciC (owR c s)).toList++[.bool (isSq (cvm c).pow)]) (.tup [.agg (ks 0 16),.o (.k 16)]) (fun _ _ _ H=>rdOfW c s c1) ?_
     refine (Bool.eq_false_or_eq_true (isSq (cvm c).pow)).elim (fun c5=>?_) (fun c5=>?_)
     · refine Run.kn c5 ?_
       refine Run.cV [] (cb true) (fun _ _ _ H=>isW (ofR c s) (ofE c s) (owR c s) 0) ?_
       refine Run.cV [] (cb true) (fun _ _ _ H=>l20works) ?_
       exact Run.rV rfl
     · refine Run.kn c5 ?_
       refine Run.cV [] (cb true) (fun _ _ _ H=>isW (ofR c s) (ofE c s) rzCi 7) ?_
       refine Run.cV [] (cb true) (fun _ _ _ H=>l20works) ?_
       exact Run.rV rfl
theorem lDm11(z w:RG)(x:RF)(c:RCi)(s:Int)(p0:(lgE z||lgE w||lgE c.b)=false)(p1:lgD x=false)(p2:lgD c.a=false)(p3:lgD c.c=false)(p4:gmay z=true)(p5:fmay x=true)(p6:((valM x).num.sign == 0)=true)(p7:gmay w=true)(p8:(gvm z).zero=true):Calls Tryz.prog 6 #[.agg ⟨(rgC z).toList++(rgC w).toList++(rfC x).toList++(rciC c).toList++[.int .i64 s]⟩] W (RetV (.bool true) W):=by
 refine Run.goP (S:=Z0) (Pack.nil.k (.agg ⟨(rgC z).toList++(rgC w).toList++(rfC x).toList++(rciC c).toList++[.int .i64 s]⟩) ((rgC z).toList++(rgC w).toList++(rfC x).toList++(rciC c).toList++[.int .i64 s]) (.s (.agg (ks 0 37)))) Tryz.func6 rfl ?_
 refine Run.cV [.bool (lgE z||lgE w||lgE c.b)] kb (fun _ _ _ H=>l20long3 27 z w c.b (H.b 1)) ?_
 refine Run.kn p0 ?_
 refine Run.cV [.bool (lgD x)] kb (fun _ _ _ H=>l20longF x) ?_
 refine Run.kn p1 ?_
 refine Run.cV [.bool (lgD c.a)] kb (fun _ _ _ H=>l20longF c.a) ?_
 refine Run.kn p2 ?_
 refine Run.cV [.bool (lgD c.c)] kb (fun _ _ _ H=>l20longF c.c) ?_
 refine Run.kn p3 ?_
 refine Run.cV ((rciC (roR z x)).toList++[.int .i64 (roE z x)]) (.tup [.agg (ks 0 16),.o (.k 16)]) (fun _ _ _ H=>roA z x) ?_
 refine Run.cV ((rciC (hfR z w)).toList++[.int .i64 (hfE z w)]) (.tup [.agg (ks 0 16),.o (.k 16)]) (fun _ _ _ H=>hfA z w) ?_
 refine Run.cV ((rciC (ofR c s)).toList++[.int .i64 (ofE c s)]) (.tup [.agg (ks 0 16),.o (.k 16)]) (fun _ _ _ H=>ofA c s) ?_
 refine Run.dr ?_
 refine RunD.cV [] (cb true) (fun _ _ _ H=>cMay z) ?_ (hV:=fun _ _=>congrArg Value.bool p4)
 refine RunD.cV [] (cb true) (fun _ _ _ H=>cMay w) ?_ (hV:=fun _ _=>congrArg Value.bool p7)
 refine RunD.en ?_
 refine Run.cV [.bool (fmay x)] kb (fun _ _ _ H=>fMay x) ?_
 refine Run.kn p5 ?_
 refine Run.cV [.int .i64 ((valM x).num.sign)] kb (fun _ _ _ H=>fSignA x p5) ?_
 refine Run.ic ((valM x).num.sign) 0 (((valM x).num.sign) == 0) ?_
 refine Run.kn p6 ?_
 refine Run.cV [] (cb true) (fun _ _ _ H=>isW (roR z x) (roE z x) rzCi 5) ?_
 refine Run.cV [.bool ((gvm z).zero)] kb (fun _ _ _ H=>cZeroA z p4) ?_
 refine Run.kn p8 ?_
 refine Run.cV [] (cb true) (fun _ _ _ H=>isW (hfR z w) (hfE z w) rzCi 5) ?_
 refine Run.cV [.int .i64 (chW c)] kb (fun _ _ _ H=>c11ChkW c) ?_
 refine Run.ic (chW c) 0 ((chW c) != 0) ?_
 refine (Bool.eq_false_or_eq_true ((chW c) != 0)).elim (fun c1=>?_) (fun c1=>?_)
 · refine Run.kn c1 ?_
   refine Run.cV [] (cb true) (fun _ _ _ H=>isW (ofR c s) (ofE c s) rzCi 2) ?_
   refine Run.cV [] (cb true) (fun _ _ _ H=>l20works) ?_
   exact Run.rV rfl
 · refine Run.kn c1 ?_
   refine Run.ic s 1 (s != 1) ?_
   refine (Bool.eq_false_or_eq_true (s != 1)).elim (fun c2=>?_) (fun c2=>?_)
   · refine Run.kn c2 ?_
     refine Run.ic s (-1) (s != (-1)) ?_
     refine (Bool.eq_false_or_eq_true (s != (-1))).elim (fun c3=>?_) (fun c3=>?_)
     · refine Run.kn c3 ?_
       refine Run.cV [] (cb true) (fun _ _ _ H=>isW (ofR c s) (ofE c s) rzCi 2) ?_
       refine Run.cV [] (cb true) (fun _ _ _ H=>l20works) ?_
       exact Run.rV rfl
     · refine Run.kn c3 ?_
       refine Run.cV ((rciC (owR c s)).toList++[.bool (isSq (cvm c).pow)]) (.tup [.agg (ks 0 16),.o (.k 16)]) (fun _ _ _ H=>rdOfW c s c1) ?_
       refine (Bool.eq_false_or_eq_true (isSq (cvm c).pow)).elim (fun c4=>?_) (fun c4=>?_)
       · refine Run.kn c4 ?_
         refine Run.cV [] (cb true) (fun _ _ _ H=>isW (ofR c s) (ofE c s) (owR c s) 0) ?_
         refine Run.cV [] (cb true) (fun _ _ _ H=>l20works) ?_
         exact Run.rV rfl
       · refine Run.kn c4 ?_
         refine Run.cV [] (cb true) (fun _ _ _ H=>isW (ofR c s) (ofE c s) rzCi 7) ?_
         refine Run.cV [] (cb true) (fun _ _ _ H=>l20works) ?_
         exact Run.rV rfl
   · refine Run.kn c2 ?_
     refine Run.cV ((rciC (owR c s)).toList++[.bool (isSq (cvm c).pow)]) (.tup [.agg (ks 0 16),.o (.k 16)]) (fun _ _ _ H=>rdOfW c s c1) ?_
     refine (Bool.eq_false_or_eq_true (isSq (cvm c).pow)).elim (fun c5=>?_) (fun c5=>?_)
     · refine Run.kn c5 ?_
       refine Run.cV [] (cb true) (fun _ _ _ H=>isW (ofR c s) (ofE c s) (owR c s) 0) ?_
       refine Run.cV [] (cb true) (fun _ _ _ H=>l20works) ?_
       exact Run.rV rfl
     · refine Run.kn c5 ?_
       refine Run.cV [] (cb true) (fun _ _ _ H=>isW (ofR c s) (ofE c s) rzCi 7) ?_
       refine Run.cV [] (cb true) (fun _ _ _ H=>l20works) ?_
       exact Run.rV rfl
theorem lDm12(z w:RG)(x:RF)(c:RCi)(s:Int)(p0:(lgE z||lgE w||lgE c.b)=false)(p1:lgD x=false)(p2:lgD c.a=false)(p3:lgD c.c=false)(p4:gmay z=true)(p5:fmay x=true)(p6:((valM x).num.sign == 0)=true)(p7:gmay w=true)(p8:(gvm z).zero=false)(p9:isSq (gvm z).norm=false):Calls Tryz.prog 6 #[.agg ⟨(rgC z).toList++(rgC w).toList++(rfC x).toList++(rciC c).toList++[.int .i64 s]⟩] W (RetV (.bool true) W):=by
 refine Run.goP (S:=Z0) (Pack.nil.k (.agg ⟨(rgC z).toList++(rgC w).toList++(rfC x).toList++(rciC c).toList++[.int .i64 s]⟩) ((rgC z).toList++(rgC w).toList++(rfC x).toList++(rciC c).toList++[.int .i64 s]) (.s (.agg (ks 0 37)))) Tryz.func6 rfl ?_
 refine Run.cV [.bool (lgE z||lgE w||lgE c.b)] kb (fun _ _ _ H=>l20long3 27 z w c.b (H.b 1)) ?_
 refine Run.kn p0 ?_
 refine Run.cV [.bool (lgD x)] kb (fun _ _ _ H=>l20longF x) ?_
 refine Run.kn p1 ?_
 refine Run.cV [.bool (lgD c.a)] kb (fun _ _ _ H=>l20longF c.a) ?_
 refine Run.kn p2 ?_
 refine Run.cV [.bool (lgD c.c)] kb (fun _ _ _ H=>l20longF c.c) ?_
 refine Run.kn p3 ?_
 refine Run.cV ((rciC (roR z x)).toList++[.int .i64 (roE z x)]) (.tup [.agg (ks 0 16),.o (.k 16)]) (fun _ _ _ H=>roA z x) ?_
 refine Run.cV ((rciC (hfR z w)).toList++[.int .i64 (hfE z w)]) (.tup [.agg (ks 0 16),.o (.k 16)]) (fun _ _ _ H=>hfA z w) ?_
 refine Run.cV ((rciC (ofR c s)).toList++[.int .i64 (ofE c s)]) (.tup [.agg (ks 0 16),.o (.k 16)]) (fun _ _ _ H=>ofA c s) ?_
 refine Run.dr ?_
 refine RunD.cV [] (cb true) (fun _ _ _ H=>cMay z) ?_ (hV:=fun _ _=>congrArg Value.bool p4)
 refine RunD.cV [] (cb true) (fun _ _ _ H=>cMay w) ?_ (hV:=fun _ _=>congrArg Value.bool p7)
 refine RunD.en ?_
 refine Run.cV [.bool (fmay x)] kb (fun _ _ _ H=>fMay x) ?_
 refine Run.kn p5 ?_
 refine Run.cV [.int .i64 ((valM x).num.sign)] kb (fun _ _ _ H=>fSignA x p5) ?_
 refine Run.ic ((valM x).num.sign) 0 (((valM x).num.sign) == 0) ?_
 refine Run.kn p6 ?_
 refine Run.cV [] (cb true) (fun _ _ _ H=>isW (roR z x) (roE z x) rzCi 5) ?_
 refine Run.cV [.bool ((gvm z).zero)] kb (fun _ _ _ H=>cZeroA z p4) ?_
 refine Run.kn p8 ?_
 refine Run.cV ((rciC (hwR z w)).toList++[.bool (isSq (gvm z).norm)]) (.tup [.agg (ks 0 16),.o (.k 16)]) (fun _ _ _ H=>rdHfW z w p4 p7 p8) ?_
 refine Run.kn p9 ?_
 refine Run.cV [] (cb true) (fun _ _ _ H=>isW (hfR z w) (hfE z w) (hwR z w) 7) ?_
 refine Run.cV [.int .i64 (chW c)] kb (fun _ _ _ H=>c11ChkW c) ?_
 refine Run.ic (chW c) 0 ((chW c) != 0) ?_
 refine (Bool.eq_false_or_eq_true ((chW c) != 0)).elim (fun c1=>?_) (fun c1=>?_)
 · refine Run.kn c1 ?_
   refine Run.cV [] (cb true) (fun _ _ _ H=>isW (ofR c s) (ofE c s) rzCi 2) ?_
   refine Run.cV [] (cb true) (fun _ _ _ H=>l20works) ?_
   exact Run.rV rfl
 · refine Run.kn c1 ?_
   refine Run.ic s 1 (s != 1) ?_
   refine (Bool.eq_false_or_eq_true (s != 1)).elim (fun c2=>?_) (fun c2=>?_)
   · refine Run.kn c2 ?_
     refine Run.ic s (-1) (s != (-1)) ?_
     refine (Bool.eq_false_or_eq_true (s != (-1))).elim (fun c3=>?_) (fun c3=>?_)
     · refine Run.kn c3 ?_
       refine Run.cV [] (cb true) (fun _ _ _ H=>isW (ofR c s) (ofE c s) rzCi 2) ?_
       refine Run.cV [] (cb true) (fun _ _ _ H=>l20works) ?_
       exact Run.rV rfl
     · refine Run.kn c3 ?_
       refine Run.cV ((rciC (owR c s)).toList++[.bool (isSq (cvm c).pow)]) (.tup [.agg (ks 0 16),.o (.k 16)]) (fun _ _ _ H=>rdOfW c s c1) ?_
       refine (Bool.eq_false_or_eq_true (isSq (cvm c).pow)).elim (fun c4=>?_) (fun c4=>?_)
       · refine Run.kn c4 ?_
         refine Run.cV [] (cb true) (fun _ _ _ H=>isW (ofR c s) (ofE c s) (owR c s) 0) ?_
         refine Run.cV [] (cb true) (fun _ _ _ H=>l20works) ?_
         exact Run.rV rfl
       · refine Run.kn c4 ?_
         refine Run.cV [] (cb true) (fun _ _ _ H=>isW (ofR c s) (ofE c s) rzCi 7) ?_
         refine Run.cV [] (cb true) (fun _ _ _ H=>l20works) ?_
         exact Run.rV rfl
   · refine Run.kn c2 ?_
     refine Run.cV ((rciC (owR c s)).toList++[.bool (isSq (cvm c).pow)]) (.tup [.agg (ks 0 16),.o (.k 16)]) (fun _ _ _ H=>rdOfW c s c1) ?_
     refine (Bool.eq_false_or_eq_true (isSq (cvm c).pow)).elim (fun c5=>?_) (fun c5=>?_)
     · refine Run.kn c5 ?_
       refine Run.cV [] (cb true) (fun _ _ _ H=>isW (ofR c s) (ofE c s) (owR c s) 0) ?_
       refine Run.cV [] (cb true) (fun _ _ _ H=>l20works) ?_
       exact Run.rV rfl
     · refine Run.kn c5 ?_
       refine Run.cV [] (cb true) (fun _ _ _ H=>isW (ofR c s) (ofE c s) rzCi 7) ?_
       refine Run.cV [] (cb true) (fun _ _ _ H=>l20works) ?_
       exact Run.rV rfl
theorem lDm13(z w:RG)(x:RF)(c:RCi)(s:Int)(p0:(lgE z||lgE w||lgE c.b)=false)(p1:lgD x=false)(p2:lgD c.a=false)(p3:lgD c.c=false)(p4:gmay z=true)(p5:fmay x=true)(p6:((valM x).num.sign == 0)=true)(p7:gmay w=true)(p8:(gvm z).zero=false)(p9:isSq (gvm z).norm=true):Calls Tryz.prog 6 #[.agg ⟨(rgC z).toList++(rgC w).toList++(rfC x).toList++(rciC c).toList++[.int .i64 s]⟩] W (RetV (.bool true) W):=by
 refine Run.goP (S:=Z0) (Pack.nil.k (.agg ⟨(rgC z).toList++(rgC w).toList++(rfC x).toList++(rciC c).toList++[.int .i64 s]⟩) ((rgC z).toList++(rgC w).toList++(rfC x).toList++(rciC c).toList++[.int .i64 s]) (.s (.agg (ks 0 37)))) Tryz.func6 rfl ?_
 refine Run.cV [.bool (lgE z||lgE w||lgE c.b)] kb (fun _ _ _ H=>l20long3 27 z w c.b (H.b 1)) ?_
 refine Run.kn p0 ?_
 refine Run.cV [.bool (lgD x)] kb (fun _ _ _ H=>l20longF x) ?_
 refine Run.kn p1 ?_
 refine Run.cV [.bool (lgD c.a)] kb (fun _ _ _ H=>l20longF c.a) ?_
 refine Run.kn p2 ?_
 refine Run.cV [.bool (lgD c.c)] kb (fun _ _ _ H=>l20longF c.c) ?_
 refine Run.kn p3 ?_
 refine Run.cV ((rciC (roR z x)).toList++[.int .i64 (roE z x)]) (.tup [.agg (ks 0 16),.o (.k 16)]) (fun _ _ _ H=>roA z x) ?_
 refine Run.cV ((rciC (hfR z w)).toList++[.int .i64 (hfE z w)]) (.tup [.agg (ks 0 16),.o (.k 16)]) (fun _ _ _ H=>hfA z w) ?_
 refine Run.cV ((rciC (ofR c s)).toList++[.int .i64 (ofE c s)]) (.tup [.agg (ks 0 16),.o (.k 16)]) (fun _ _ _ H=>ofA c s) ?_
 refine Run.dr ?_
 refine RunD.cV [] (cb true) (fun _ _ _ H=>cMay z) ?_ (hV:=fun _ _=>congrArg Value.bool p4)
 refine RunD.cV [] (cb true) (fun _ _ _ H=>cMay w) ?_ (hV:=fun _ _=>congrArg Value.bool p7)
 refine RunD.en ?_
 refine Run.cV [.bool (fmay x)] kb (fun _ _ _ H=>fMay x) ?_
 refine Run.kn p5 ?_
 refine Run.cV [.int .i64 ((valM x).num.sign)] kb (fun _ _ _ H=>fSignA x p5) ?_
 refine Run.ic ((valM x).num.sign) 0 (((valM x).num.sign) == 0) ?_
 refine Run.kn p6 ?_
 refine Run.cV [] (cb true) (fun _ _ _ H=>isW (roR z x) (roE z x) rzCi 5) ?_
 refine Run.cV [.bool ((gvm z).zero)] kb (fun _ _ _ H=>cZeroA z p4) ?_
 refine Run.kn p8 ?_
 refine Run.cV ((rciC (hwR z w)).toList++[.bool (isSq (gvm z).norm)]) (.tup [.agg (ks 0 16),.o (.k 16)]) (fun _ _ _ H=>rdHfW z w p4 p7 p8) ?_
 refine Run.kn p9 ?_
 refine Run.cV [] (cb true) (fun _ _ _ H=>isW (hfR z w) (hfE z w) (hwR z w) 0) ?_
 refine Run.cV [.int .i64 (chW c)] kb (fun _ _ _ H=>c11ChkW c) ?_
 refine Run.ic (chW c) 0 ((chW c) != 0) ?_
 refine (Bool.eq_false_or_eq_true ((chW c) != 0)).elim (fun c1=>?_) (fun c1=>?_)
 · refine Run.kn c1 ?_
   refine Run.cV [] (cb true) (fun _ _ _ H=>isW (ofR c s) (ofE c s) rzCi 2) ?_
   refine Run.cV [] (cb true) (fun _ _ _ H=>l20works) ?_
   exact Run.rV rfl
 · refine Run.kn c1 ?_
   refine Run.ic s 1 (s != 1) ?_
   refine (Bool.eq_false_or_eq_true (s != 1)).elim (fun c2=>?_) (fun c2=>?_)
   · refine Run.kn c2 ?_
     refine Run.ic s (-1) (s != (-1)) ?_
     refine (Bool.eq_false_or_eq_true (s != (-1))).elim (fun c3=>?_) (fun c3=>?_)
     · refine Run.kn c3 ?_
       refine Run.cV [] (cb true) (fun _ _ _ H=>isW (ofR c s) (ofE c s) rzCi 2) ?_
       refine Run.cV [] (cb true) (fun _ _ _ H=>l20works) ?_
       exact Run.rV rfl
     · refine Run.kn c3 ?_
       refine Run.cV ((rciC (owR c s)).toList++[.bool (isSq (cvm c).pow)]) (.tup [.agg (ks 0 16),.o (.k 16)]) (fun _ _ _ H=>rdOfW c s c1) ?_
       refine (Bool.eq_false_or_eq_true (isSq (cvm c).pow)).elim (fun c4=>?_) (fun c4=>?_)
       · refine Run.kn c4 ?_
         refine Run.cV [] (cb true) (fun _ _ _ H=>isW (ofR c s) (ofE c s) (owR c s) 0) ?_
         refine Run.cV [] (cb true) (fun _ _ _ H=>l20works) ?_
         exact Run.rV rfl
       · refine Run.kn c4 ?_
         refine Run.cV [] (cb true) (fun _ _ _ H=>isW (ofR c s) (ofE c s) rzCi 7) ?_
         refine Run.cV [] (cb true) (fun _ _ _ H=>l20works) ?_
         exact Run.rV rfl
   · refine Run.kn c2 ?_
     refine Run.cV ((rciC (owR c s)).toList++[.bool (isSq (cvm c).pow)]) (.tup [.agg (ks 0 16),.o (.k 16)]) (fun _ _ _ H=>rdOfW c s c1) ?_
     refine (Bool.eq_false_or_eq_true (isSq (cvm c).pow)).elim (fun c5=>?_) (fun c5=>?_)
     · refine Run.kn c5 ?_
       refine Run.cV [] (cb true) (fun _ _ _ H=>isW (ofR c s) (ofE c s) (owR c s) 0) ?_
       refine Run.cV [] (cb true) (fun _ _ _ H=>l20works) ?_
       exact Run.rV rfl
     · refine Run.kn c5 ?_
       refine Run.cV [] (cb true) (fun _ _ _ H=>isW (ofR c s) (ofE c s) rzCi 7) ?_
       refine Run.cV [] (cb true) (fun _ _ _ H=>l20works) ?_
       exact Run.rV rfl
theorem lDm20(z w:RG)(x:RF)(c:RCi)(s:Int)(p0:(lgE z||lgE w||lgE c.b)=false)(p1:lgD x=false)(p2:lgD c.a=false)(p3:lgD c.c=false)(p4:gmay z=true)(p5:fmay x=true)(p6:((valM x).num.sign == 0)=false)(p7:gmay w=false):Calls Tryz.prog 6 #[.agg ⟨(rgC z).toList++(rgC w).toList++(rfC x).toList++(rciC c).toList++[.int .i64 s]⟩] W (RetV (.bool true) W):=by
 refine Run.goP (S:=Z0) (Pack.nil.k (.agg ⟨(rgC z).toList++(rgC w).toList++(rfC x).toList++(rciC c).toList++[.int .i64 s]⟩) ((rgC z).toList++(rgC w).toList++(rfC x).toList++(rciC c).toList++[.int .i64 s]) (.s (.agg (ks 0 37)))) Tryz.func6 rfl ?_
 refine Run.cV [.bool (lgE z||lgE w||lgE c.b)] kb (fun _ _ _ H=>l20long3 27 z w c.b (H.b 1)) ?_
 refine Run.kn p0 ?_
 refine Run.cV [.bool (lgD x)] kb (fun _ _ _ H=>l20longF x) ?_
 refine Run.kn p1 ?_
 refine Run.cV [.bool (lgD c.a)] kb (fun _ _ _ H=>l20longF c.a) ?_
 refine Run.kn p2 ?_
 refine Run.cV [.bool (lgD c.c)] kb (fun _ _ _ H=>l20longF c.c) ?_
 refine Run.kn p3 ?_
 refine Run.cV ((rciC (roR z x)).toList++[.int .i64 (roE z x)]) (.tup [.agg (ks 0 16),.o (.k 16)]) (fun _ _ _ H=>roA z x) ?_
 refine Run.cV ((rciC (hfR z w)).toList++[.int .i64 (hfE z w)]) (.tup [.agg (ks 0 16),.o (.k 16)]) (fun _ _ _ H=>hfA z w) ?_
 refine Run.cV ((rciC (ofR c s)).toList++[.int .i64 (ofE c s)]) (.tup [.agg (ks 0 16),.o (.k 16)]) (fun _ _ _ H=>ofA c s) ?_
 refine Run.dr ?_
 refine RunD.cV [] (cb true) (fun _ _ _ H=>cMay z) ?_ (hV:=fun _ _=>congrArg Value.bool p4)
 refine RunD.cV [] (cb false) (fun _ _ _ H=>cMay w) ?_ (hV:=fun _ _=>congrArg Value.bool p7)
 refine RunD.en ?_
 refine Run.cV [.bool (fmay x)] kb (fun _ _ _ H=>fMay x) ?_
 refine Run.kn p5 ?_
 refine Run.cV [.int .i64 ((valM x).num.sign)] kb (fun _ _ _ H=>fSignA x p5) ?_
 refine Run.ic ((valM x).num.sign) 0 (((valM x).num.sign) == 0) ?_
 refine Run.kn p6 ?_
 refine Run.cV (ciC (roD (gvm z) (valM x))).toList (.s (.agg (ks 0 16))) (fun _ _ _ H=>rdRoA z x p4 p5 p6) ?_
 refine Run.cV [] (cb true) (fun _ _ _ H=>isW (roR z x) (roE z x) (rci (roD (gvm z) (valM x))) 0) ?_
 refine Run.cV [] (cb true) (fun _ _ _ H=>isW (hfR z w) (hfE z w) rzCi 2) ?_
 refine Run.cV [.int .i64 (chW c)] kb (fun _ _ _ H=>c11ChkW c) ?_
 refine Run.ic (chW c) 0 ((chW c) != 0) ?_
 refine (Bool.eq_false_or_eq_true ((chW c) != 0)).elim (fun c1=>?_) (fun c1=>?_)
 · refine Run.kn c1 ?_
   refine Run.cV [] (cb true) (fun _ _ _ H=>isW (ofR c s) (ofE c s) rzCi 2) ?_
   refine Run.cV [] (cb true) (fun _ _ _ H=>l20works) ?_
   exact Run.rV rfl
 · refine Run.kn c1 ?_
   refine Run.ic s 1 (s != 1) ?_
   refine (Bool.eq_false_or_eq_true (s != 1)).elim (fun c2=>?_) (fun c2=>?_)
   · refine Run.kn c2 ?_
     refine Run.ic s (-1) (s != (-1)) ?_
     refine (Bool.eq_false_or_eq_true (s != (-1))).elim (fun c3=>?_) (fun c3=>?_)
     · refine Run.kn c3 ?_
       refine Run.cV [] (cb true) (fun _ _ _ H=>isW (ofR c s) (ofE c s) rzCi 2) ?_
       refine Run.cV [] (cb true) (fun _ _ _ H=>l20works) ?_
       exact Run.rV rfl
     · refine Run.kn c3 ?_
       refine Run.cV ((rciC (owR c s)).toList++[.bool (isSq (cvm c).pow)]) (.tup [.agg (ks 0 16),.o (.k 16)]) (fun _ _ _ H=>rdOfW c s c1) ?_
       refine (Bool.eq_false_or_eq_true (isSq (cvm c).pow)).elim (fun c4=>?_) (fun c4=>?_)
       · refine Run.kn c4 ?_
         refine Run.cV [] (cb true) (fun _ _ _ H=>isW (ofR c s) (ofE c s) (owR c s) 0) ?_
         refine Run.cV [] (cb true) (fun _ _ _ H=>l20works) ?_
         exact Run.rV rfl
       · refine Run.kn c4 ?_
         refine Run.cV [] (cb true) (fun _ _ _ H=>isW (ofR c s) (ofE c s) rzCi 7) ?_
         refine Run.cV [] (cb true) (fun _ _ _ H=>l20works) ?_
         exact Run.rV rfl
   · refine Run.kn c2 ?_
     refine Run.cV ((rciC (owR c s)).toList++[.bool (isSq (cvm c).pow)]) (.tup [.agg (ks 0 16),.o (.k 16)]) (fun _ _ _ H=>rdOfW c s c1) ?_
     refine (Bool.eq_false_or_eq_true (isSq (cvm c).pow)).elim (fun c5=>?_) (fun c5=>?_)
     · refine Run.kn c5 ?_
       refine Run.cV [] (cb true) (fun _ _ _ H=>isW (ofR c s) (ofE c s) (owR c s) 0) ?_
       refine Run.cV [] (cb true) (fun _ _ _ H=>l20works) ?_
       exact Run.rV rfl
     · refine Run.kn c5 ?_
       refine Run.cV [] (cb true) (fun _ _ _ H=>isW (ofR c s) (ofE c s) rzCi 7) ?_
       refine Run.cV [] (cb true) (fun _ _ _ H=>l20works) ?_
       exact Run.rV rfl
theorem lDm21(z w:RG)(x:RF)(c:RCi)(s:Int)(p0:(lgE z||lgE w||lgE c.b)=false)(p1:lgD x=false)(p2:lgD c.a=false)(p3:lgD c.c=false)(p4:gmay z=true)(p5:fmay x=true)(p6:((valM x).num.sign == 0)=false)(p7:gmay w=true)(p8:(gvm z).zero=true):Calls Tryz.prog 6 #[.agg ⟨(rgC z).toList++(rgC w).toList++(rfC x).toList++(rciC c).toList++[.int .i64 s]⟩] W (RetV (.bool true) W):=by
 refine Run.goP (S:=Z0) (Pack.nil.k (.agg ⟨(rgC z).toList++(rgC w).toList++(rfC x).toList++(rciC c).toList++[.int .i64 s]⟩) ((rgC z).toList++(rgC w).toList++(rfC x).toList++(rciC c).toList++[.int .i64 s]) (.s (.agg (ks 0 37)))) Tryz.func6 rfl ?_
 refine Run.cV [.bool (lgE z||lgE w||lgE c.b)] kb (fun _ _ _ H=>l20long3 27 z w c.b (H.b 1)) ?_
 refine Run.kn p0 ?_
 refine Run.cV [.bool (lgD x)] kb (fun _ _ _ H=>l20longF x) ?_
 refine Run.kn p1 ?_
 refine Run.cV [.bool (lgD c.a)] kb (fun _ _ _ H=>l20longF c.a) ?_
 refine Run.kn p2 ?_
 refine Run.cV [.bool (lgD c.c)] kb (fun _ _ _ H=>l20longF c.c) ?_
 refine Run.kn p3 ?_
 refine Run.cV ((rciC (roR z x)).toList++[.int .i64 (roE z x)]) (.tup [.agg (ks 0 16),.o (.k 16)]) (fun _ _ _ H=>roA z x) ?_
 refine Run.cV ((rciC (hfR z w)).toList++[.int .i64 (hfE z w)]) (.tup [.agg (ks 0 16),.o (.k 16)]) (fun _ _ _ H=>hfA z w) ?_
 refine Run.cV ((rciC (ofR c s)).toList++[.int .i64 (ofE c s)]) (.tup [.agg (ks 0 16),.o (.k 16)]) (fun _ _ _ H=>ofA c s) ?_
 refine Run.dr ?_
 refine RunD.cV [] (cb true) (fun _ _ _ H=>cMay z) ?_ (hV:=fun _ _=>congrArg Value.bool p4)
 refine RunD.cV [] (cb true) (fun _ _ _ H=>cMay w) ?_ (hV:=fun _ _=>congrArg Value.bool p7)
 refine RunD.en ?_
 refine Run.cV [.bool (fmay x)] kb (fun _ _ _ H=>fMay x) ?_
 refine Run.kn p5 ?_
 refine Run.cV [.int .i64 ((valM x).num.sign)] kb (fun _ _ _ H=>fSignA x p5) ?_
 refine Run.ic ((valM x).num.sign) 0 (((valM x).num.sign) == 0) ?_
 refine Run.kn p6 ?_
 refine Run.cV (ciC (roD (gvm z) (valM x))).toList (.s (.agg (ks 0 16))) (fun _ _ _ H=>rdRoA z x p4 p5 p6) ?_
 refine Run.cV [] (cb true) (fun _ _ _ H=>isW (roR z x) (roE z x) (rci (roD (gvm z) (valM x))) 0) ?_
 refine Run.cV [.bool ((gvm z).zero)] kb (fun _ _ _ H=>cZeroA z p4) ?_
 refine Run.kn p8 ?_
 refine Run.cV [] (cb true) (fun _ _ _ H=>isW (hfR z w) (hfE z w) rzCi 5) ?_
 refine Run.cV [.int .i64 (chW c)] kb (fun _ _ _ H=>c11ChkW c) ?_
 refine Run.ic (chW c) 0 ((chW c) != 0) ?_
 refine (Bool.eq_false_or_eq_true ((chW c) != 0)).elim (fun c1=>?_) (fun c1=>?_)
 · refine Run.kn c1 ?_
   refine Run.cV [] (cb true) (fun _ _ _ H=>isW (ofR c s) (ofE c s) rzCi 2) ?_
   refine Run.cV [] (cb true) (fun _ _ _ H=>l20works) ?_
   exact Run.rV rfl
 · refine Run.kn c1 ?_
   refine Run.ic s 1 (s != 1) ?_
   refine (Bool.eq_false_or_eq_true (s != 1)).elim (fun c2=>?_) (fun c2=>?_)
   · refine Run.kn c2 ?_
     refine Run.ic s (-1) (s != (-1)) ?_
     refine (Bool.eq_false_or_eq_true (s != (-1))).elim (fun c3=>?_) (fun c3=>?_)
     · refine Run.kn c3 ?_
       refine Run.cV [] (cb true) (fun _ _ _ H=>isW (ofR c s) (ofE c s) rzCi 2) ?_
       refine Run.cV [] (cb true) (fun _ _ _ H=>l20works) ?_
       exact Run.rV rfl
     · refine Run.kn c3 ?_
       refine Run.cV ((rciC (owR c s)).toList++[.bool (isSq (cvm c).pow)]) (.tup [.agg (ks 0 16),.o (.k 16)]) (fun _ _ _ H=>rdOfW c s c1) ?_
       refine (Bool.eq_false_or_eq_true (isSq (cvm c).pow)).elim (fun c4=>?_) (fun c4=>?_)
       · refine Run.kn c4 ?_
         refine Run.cV [] (cb true) (fun _ _ _ H=>isW (ofR c s) (ofE c s) (owR c s) 0) ?_
         refine Run.cV [] (cb true) (fun _ _ _ H=>l20works) ?_
         exact Run.rV rfl
       · refine Run.kn c4 ?_
         refine Run.cV [] (cb true) (fun _ _ _ H=>isW (ofR c s) (ofE c s) rzCi 7) ?_
         refine Run.cV [] (cb true) (fun _ _ _ H=>l20works) ?_
         exact Run.rV rfl
   · refine Run.kn c2 ?_
     refine Run.cV ((rciC (owR c s)).toList++[.bool (isSq (cvm c).pow)]) (.tup [.agg (ks 0 16),.o (.k 16)]) (fun _ _ _ H=>rdOfW c s c1) ?_
     refine (Bool.eq_false_or_eq_true (isSq (cvm c).pow)).elim (fun c5=>?_) (fun c5=>?_)
     · refine Run.kn c5 ?_
       refine Run.cV [] (cb true) (fun _ _ _ H=>isW (ofR c s) (ofE c s) (owR c s) 0) ?_
       refine Run.cV [] (cb true) (fun _ _ _ H=>l20works) ?_
       exact Run.rV rfl
     · refine Run.kn c5 ?_
       refine Run.cV [] (cb true) (fun _ _ _ H=>isW (ofR c s) (ofE c s) rzCi 7) ?_
       refine Run.cV [] (cb true) (fun _ _ _ H=>l20works) ?_
       exact Run.rV rfl
theorem lDm22(z w:RG)(x:RF)(c:RCi)(s:Int)(p0:(lgE z||lgE w||lgE c.b)=false)(p1:lgD x=false)(p2:lgD c.a=false)(p3:lgD c.c=false)(p4:gmay z=true)(p5:fmay x=true)(p6:((valM x).num.sign == 0)=false)(p7:gmay w=true)(p8:(gvm z).zero=false)(p9:isSq (gvm z).norm=false):Calls Tryz.prog 6 #[.agg ⟨(rgC z).toList++(rgC w).toList++(rfC x).toList++(rciC c).toList++[.int .i64 s]⟩] W (RetV (.bool true) W):=by
 refine Run.goP (S:=Z0) (Pack.nil.k (.agg ⟨(rgC z).toList++(rgC w).toList++(rfC x).toList++(rciC c).toList++[.int .i64 s]⟩) ((rgC z).toList++(rgC w).toList++(rfC x).toList++(rciC c).toList++[.int .i64 s]) (.s (.agg (ks 0 37)))) Tryz.func6 rfl ?_
 refine Run.cV [.bool (lgE z||lgE w||lgE c.b)] kb (fun _ _ _ H=>l20long3 27 z w c.b (H.b 1)) ?_
 refine Run.kn p0 ?_
 refine Run.cV [.bool (lgD x)] kb (fun _ _ _ H=>l20longF x) ?_
 refine Run.kn p1 ?_
 refine Run.cV [.bool (lgD c.a)] kb (fun _ _ _ H=>l20longF c.a) ?_
 refine Run.kn p2 ?_
 refine Run.cV [.bool (lgD c.c)] kb (fun _ _ _ H=>l20longF c.c) ?_
 refine Run.kn p3 ?_
 refine Run.cV ((rciC (roR z x)).toList++[.int .i64 (roE z x)]) (.tup [.agg (ks 0 16),.o (.k 16)]) (fun _ _ _ H=>roA z x) ?_
 refine Run.cV ((rciC (hfR z w)).toList++[.int .i64 (hfE z w)]) (.tup [.agg (ks 0 16),.o (.k 16)]) (fun _ _ _ H=>hfA z w) ?_
 refine Run.cV ((rciC (ofR c s)).toList++[.int .i64 (ofE c s)]) (.tup [.agg (ks 0 16),.o (.k 16)]) (fun _ _ _ H=>ofA c s) ?_
 refine Run.dr ?_
 refine RunD.cV [] (cb true) (fun _ _ _ H=>cMay z) ?_ (hV:=fun _ _=>congrArg Value.bool p4)
 refine RunD.cV [] (cb true) (fun _ _ _ H=>cMay w) ?_ (hV:=fun _ _=>congrArg Value.bool p7)
 refine RunD.en ?_
 refine Run.cV [.bool (fmay x)] kb (fun _ _ _ H=>fMay x) ?_
 refine Run.kn p5 ?_
 refine Run.cV [.int .i64 ((valM x).num.sign)] kb (fun _ _ _ H=>fSignA x p5) ?_
 refine Run.ic ((valM x).num.sign) 0 (((valM x).num.sign) == 0) ?_
 refine Run.kn p6 ?_
 refine Run.cV (ciC (roD (gvm z) (valM x))).toList (.s (.agg (ks 0 16))) (fun _ _ _ H=>rdRoA z x p4 p5 p6) ?_
 refine Run.cV [] (cb true) (fun _ _ _ H=>isW (roR z x) (roE z x) (rci (roD (gvm z) (valM x))) 0) ?_
 refine Run.cV [.bool ((gvm z).zero)] kb (fun _ _ _ H=>cZeroA z p4) ?_
 refine Run.kn p8 ?_
 refine Run.cV ((rciC (hwR z w)).toList++[.bool (isSq (gvm z).norm)]) (.tup [.agg (ks 0 16),.o (.k 16)]) (fun _ _ _ H=>rdHfW z w p4 p7 p8) ?_
 refine Run.kn p9 ?_
 refine Run.cV [] (cb true) (fun _ _ _ H=>isW (hfR z w) (hfE z w) (hwR z w) 7) ?_
 refine Run.cV [.int .i64 (chW c)] kb (fun _ _ _ H=>c11ChkW c) ?_
 refine Run.ic (chW c) 0 ((chW c) != 0) ?_
 refine (Bool.eq_false_or_eq_true ((chW c) != 0)).elim (fun c1=>?_) (fun c1=>?_)
 · refine Run.kn c1 ?_
   refine Run.cV [] (cb true) (fun _ _ _ H=>isW (ofR c s) (ofE c s) rzCi 2) ?_
   refine Run.cV [] (cb true) (fun _ _ _ H=>l20works) ?_
   exact Run.rV rfl
 · refine Run.kn c1 ?_
   refine Run.ic s 1 (s != 1) ?_
   refine (Bool.eq_false_or_eq_true (s != 1)).elim (fun c2=>?_) (fun c2=>?_)
   · refine Run.kn c2 ?_
     refine Run.ic s (-1) (s != (-1)) ?_
     refine (Bool.eq_false_or_eq_true (s != (-1))).elim (fun c3=>?_) (fun c3=>?_)
     · refine Run.kn c3 ?_
       refine Run.cV [] (cb true) (fun _ _ _ H=>isW (ofR c s) (ofE c s) rzCi 2) ?_
       refine Run.cV [] (cb true) (fun _ _ _ H=>l20works) ?_
       exact Run.rV rfl
     · refine Run.kn c3 ?_
       refine Run.cV ((rciC (owR c s)).toList++[.bool (isSq (cvm c).pow)]) (.tup [.agg (ks 0 16),.o (.k 16)]) (fun _ _ _ H=>rdOfW c s c1) ?_
       refine (Bool.eq_false_or_eq_true (isSq (cvm c).pow)).elim (fun c4=>?_) (fun c4=>?_)
       · refine Run.kn c4 ?_
         refine Run.cV [] (cb true) (fun _ _ _ H=>isW (ofR c s) (ofE c s) (owR c s) 0) ?_
         refine Run.cV [] (cb true) (fun _ _ _ H=>l20works) ?_
         exact Run.rV rfl
       · refine Run.kn c4 ?_
         refine Run.cV [] (cb true) (fun _ _ _ H=>isW (ofR c s) (ofE c s) rzCi 7) ?_
         refine Run.cV [] (cb true) (fun _ _ _ H=>l20works) ?_
         exact Run.rV rfl
   · refine Run.kn c2 ?_
     refine Run.cV ((rciC (owR c s)).toList++[.bool (isSq (cvm c).pow)]) (.tup [.agg (ks 0 16),.o (.k 16)]) (fun _ _ _ H=>rdOfW c s c1) ?_
     refine (Bool.eq_false_or_eq_true (isSq (cvm c).pow)).elim (fun c5=>?_) (fun c5=>?_)
     · refine Run.kn c5 ?_
       refine Run.cV [] (cb true) (fun _ _ _ H=>isW (ofR c s) (ofE c s) (owR c s) 0) ?_
       refine Run.cV [] (cb true) (fun _ _ _ H=>l20works) ?_
       exact Run.rV rfl
     · refine Run.kn c5 ?_
       refine Run.cV [] (cb true) (fun _ _ _ H=>isW (ofR c s) (ofE c s) rzCi 7) ?_
       refine Run.cV [] (cb true) (fun _ _ _ H=>l20works) ?_
       exact Run.rV rfl
theorem lDm23(z w:RG)(x:RF)(c:RCi)(s:Int)(p0:(lgE z||lgE w||lgE c.b)=false)(p1:lgD x=false)(p2:lgD c.a=false)(p3:lgD c.c=false)(p4:gmay z=true)(p5:fmay x=true)(p6:((valM x).num.sign == 0)=false)(p7:gmay w=true)(p8:(gvm z).zero=false)(p9:isSq (gvm z).norm=true):Calls Tryz.prog 6 #[.agg ⟨(rgC z).toList++(rgC w).toList++(rfC x).toList++(rciC c).toList++[.int .i64 s]⟩] W (RetV (.bool true) W):=by
 refine Run.goP (S:=Z0) (Pack.nil.k (.agg ⟨(rgC z).toList++(rgC w).toList++(rfC x).toList++(rciC c).toList++[.int .i64 s]⟩) ((rgC z).toList++(rgC w).toList++(rfC x).toList++(rciC c).toList++[.int .i64 s]) (.s (.agg (ks 0 37)))) Tryz.func6 rfl ?_
 refine Run.cV [.bool (lgE z||lgE w||lgE c.b)] kb (fun _ _ _ H=>l20long3 27 z w c.b (H.b 1)) ?_
 refine Run.kn p0 ?_
 refine Run.cV [.bool (lgD x)] kb (fun _ _ _ H=>l20longF x) ?_
 refine Run.kn p1 ?_
 refine Run.cV [.bool (lgD c.a)] kb (fun _ _ _ H=>l20longF c.a) ?_
 refine Run.kn p2 ?_
 refine Run.cV [.bool (lgD c.c)] kb (fun _ _ _ H=>l20longF c.c) ?_
 refine Run.kn p3 ?_
 refine Run.cV ((rciC (roR z x)).toList++[.int .i64 (roE z x)]) (.tup [.agg (ks 0 16),.o (.k 16)]) (fun _ _ _ H=>roA z x) ?_
 refine Run.cV ((rciC (hfR z w)).toList++[.int .i64 (hfE z w)]) (.tup [.agg (ks 0 16),.o (.k 16)]) (fun _ _ _ H=>hfA z w) ?_
 refine Run.cV ((rciC (ofR c s)).toList++[.int .i64 (ofE c s)]) (.tup [.agg (ks 0 16),.o (.k 16)]) (fun _ _ _ H=>ofA c s) ?_
 refine Run.dr ?_
 refine RunD.cV [] (cb true) (fun _ _ _ H=>cMay z) ?_ (hV:=fun _ _=>congrArg Value.bool p4)
 refine RunD.cV [] (cb true) (fun _ _ _ H=>cMay w) ?_ (hV:=fun _ _=>congrArg Value.bool p7)
 refine RunD.en ?_
 refine Run.cV [.bool (fmay x)] kb (fun _ _ _ H=>fMay x) ?_
 refine Run.kn p5 ?_
 refine Run.cV [.int .i64 ((valM x).num.sign)] kb (fun _ _ _ H=>fSignA x p5) ?_
 refine Run.ic ((valM x).num.sign) 0 (((valM x).num.sign) == 0) ?_
 refine Run.kn p6 ?_
 refine Run.cV (ciC (roD (gvm z) (valM x))).toList (.s (.agg (ks 0 16))) (fun _ _ _ H=>rdRoA z x p4 p5 p6) ?_
 refine Run.cV [] (cb true) (fun _ _ _ H=>isW (roR z x) (roE z x) (rci (roD (gvm z) (valM x))) 0) ?_
 refine Run.cV [.bool ((gvm z).zero)] kb (fun _ _ _ H=>cZeroA z p4) ?_
 refine Run.kn p8 ?_
 refine Run.cV ((rciC (hwR z w)).toList++[.bool (isSq (gvm z).norm)]) (.tup [.agg (ks 0 16),.o (.k 16)]) (fun _ _ _ H=>rdHfW z w p4 p7 p8) ?_
 refine Run.kn p9 ?_
 refine Run.cV [] (cb true) (fun _ _ _ H=>isW (hfR z w) (hfE z w) (hwR z w) 0) ?_
 refine Run.cV [.int .i64 (chW c)] kb (fun _ _ _ H=>c11ChkW c) ?_
 refine Run.ic (chW c) 0 ((chW c) != 0) ?_
 refine (Bool.eq_false_or_eq_true ((chW c) != 0)).elim (fun c1=>?_) (fun c1=>?_)
 · refine Run.kn c1 ?_
   refine Run.cV [] (cb true) (fun _ _ _ H=>isW (ofR c s) (ofE c s) rzCi 2) ?_
   refine Run.cV [] (cb true) (fun _ _ _ H=>l20works) ?_
   exact Run.rV rfl
 · refine Run.kn c1 ?_
   refine Run.ic s 1 (s != 1) ?_
   refine (Bool.eq_false_or_eq_true (s != 1)).elim (fun c2=>?_) (fun c2=>?_)
   · refine Run.kn c2 ?_
     refine Run.ic s (-1) (s != (-1)) ?_
     refine (Bool.eq_false_or_eq_true (s != (-1))).elim (fun c3=>?_) (fun c3=>?_)
     · refine Run.kn c3 ?_
       refine Run.cV [] (cb true) (fun _ _ _ H=>isW (ofR c s) (ofE c s) rzCi 2) ?_
       refine Run.cV [] (cb true) (fun _ _ _ H=>l20works) ?_
       exact Run.rV rfl
     · refine Run.kn c3 ?_
       refine Run.cV ((rciC (owR c s)).toList++[.bool (isSq (cvm c).pow)]) (.tup [.agg (ks 0 16),.o (.k 16)]) (fun _ _ _ H=>rdOfW c s c1) ?_
       refine (Bool.eq_false_or_eq_true (isSq (cvm c).pow)).elim (fun c4=>?_) (fun c4=>?_)
       · refine Run.kn c4 ?_
         refine Run.cV [] (cb true) (fun _ _ _ H=>isW (ofR c s) (ofE c s) (owR c s) 0) ?_
         refine Run.cV [] (cb true) (fun _ _ _ H=>l20works) ?_
         exact Run.rV rfl
       · refine Run.kn c4 ?_
         refine Run.cV [] (cb true) (fun _ _ _ H=>isW (ofR c s) (ofE c s) rzCi 7) ?_
         refine Run.cV [] (cb true) (fun _ _ _ H=>l20works) ?_
         exact Run.rV rfl
   · refine Run.kn c2 ?_
     refine Run.cV ((rciC (owR c s)).toList++[.bool (isSq (cvm c).pow)]) (.tup [.agg (ks 0 16),.o (.k 16)]) (fun _ _ _ H=>rdOfW c s c1) ?_
     refine (Bool.eq_false_or_eq_true (isSq (cvm c).pow)).elim (fun c5=>?_) (fun c5=>?_)
     · refine Run.kn c5 ?_
       refine Run.cV [] (cb true) (fun _ _ _ H=>isW (ofR c s) (ofE c s) (owR c s) 0) ?_
       refine Run.cV [] (cb true) (fun _ _ _ H=>l20works) ?_
       exact Run.rV rfl
     · refine Run.kn c5 ?_
       refine Run.cV [] (cb true) (fun _ _ _ H=>isW (ofR c s) (ofE c s) rzCi 7) ?_
       refine Run.cV [] (cb true) (fun _ _ _ H=>l20works) ?_
       exact Run.rV rfl
end Go.Proofs.YtcboejgklgnifaaGreat
namespace Go.Proofs.YtcboejgklgnifaaGreat
open Go.ChangeShapes Go.WideShapes Go.ChangeAt Go.RowKit
theorem list2{cs:List Value}(h:cs.length=2):∃ a b,cs=[a,b]:=by
 match cs,h with
 | [a,b],_=>exact⟨a,b,rfl⟩
theorem list4{cs:List Value}(h:cs.length=4):∃ a b c d,cs=[a,b,c,d]:=by
 match cs,h with
 | [a,b,c,d],_=>exact⟨a,b,c,d,rfl⟩
theorem list8{cs:List Value}(h:cs.length=8):∃ a b c d e f g i,cs=[a,b,c,d,e,f,g,i]:=by
 match cs,h with
 | [a,b,c,d,e,f,g,i],_=>exact⟨a,b,c,d,e,f,g,i,rfl⟩
section
variable {H:Type} {enc:TypeId×Value→H} {w:World} {base:Nat} {spare:Nat→Bool} {held:Bool}
theorem rd_whole{fuel:Nat}{cs:List Value}{x:DataW H×List MemPlace}(h:DataW.trod enc Tryz.prog w base spare held fuel 23 cs=some x):∃ r:RW,cs=(rwC r).toList:=by
 obtain⟨y0,y1,n,_,hl,h0,h1⟩:=trod_struct2 Tryz.underlying23 h
 obtain⟨b,e0,_⟩:=DataW.trod_bool Tryz.underlying4 h0
 obtain⟨s,e1,_,_⟩:=DataW.trod_string Tryz.underlying9 h1
 rw [show Tryz.prog.cellsOf 23=2 by kernel_rfl] at hl
 rw [show Tryz.prog.cellsOf 4=1 by kernel_rfl] at e0
 rw [show Tryz.prog.cellsOf 9=1 by kernel_rfl] at e1
 obtain⟨u,v,rfl⟩:=list2 hl
 simp only [List.drop_zero,List.take_succ_cons,List.take_zero,List.cons.injEq,and_true] at e0
 simp only [List.drop_succ_cons,List.drop_zero,List.take_succ_cons,List.take_zero,List.cons.injEq,and_true] at e1
 subst e0;subst e1
 exact⟨⟨b,s⟩,rfl⟩
theorem rd_frac{fuel:Nat}{cs:List Value}{x:DataW H×List MemPlace}(h:DataW.trod enc Tryz.prog w base spare held fuel 25 cs=some x):∃ r:RF,cs=(rfC r).toList:=by
 obtain⟨y0,y1,n,_,hl,h0,h1⟩:=trod_struct2 Tryz.underlying25 h
 obtain⟨a,e0⟩:=rd_whole h0
 obtain⟨b,e1⟩:=rd_whole h1
 rw [show Tryz.prog.cellsOf 25=4 by kernel_rfl] at hl
 rw [show Tryz.prog.cellsOf 23=2 by kernel_rfl] at e0 e1
 obtain⟨u0,u1,u2,u3,rfl⟩:=list4 hl
 simp only [List.drop_zero,List.drop_succ_cons,List.take_succ_cons,List.take_zero,List.cons.injEq,and_true] at e0 e1
 obtain⟨rfl,rfl⟩:=e0
 obtain⟨rfl,rfl⟩:=e1
 exact⟨⟨a,b⟩,rfl⟩
theorem rd_gauss{fuel:Nat}{cs:List Value}{x:DataW H×List MemPlace}(h:DataW.trod enc Tryz.prog w base spare held fuel 27 cs=some x):∃ r:RG,cs=(rgC r).toList:=by
 obtain⟨y0,y1,n,_,hl,h0,h1⟩:=trod_struct2 Tryz.underlying27 h
 obtain⟨a,e0⟩:=rd_frac h0
 obtain⟨b,e1⟩:=rd_frac h1
 rw [show Tryz.prog.cellsOf 27=8 by kernel_rfl] at hl
 rw [show Tryz.prog.cellsOf 25=4 by kernel_rfl] at e0 e1
 obtain⟨u0,u1,u2,u3,u4,u5,u6,u7,rfl⟩:=list8 hl
 simp only [List.drop_zero,List.drop_succ_cons,List.take_succ_cons,List.take_zero,List.cons.injEq,and_true] at e0 e1
 obtain⟨rfl,rfl,rfl,rfl⟩:=e0
 obtain⟨rfl,rfl,rfl,rfl⟩:=e1
 exact⟨⟨a,b⟩,rfl⟩
end
section
variable {H:Type} {enc:TypeId×Value→H} {w:World} {base:Nat} {spare:Nat→Bool} {held:Bool}
theorem trod_struct3{P:Program}{t:TypeId}{f0 f1 f2:Field}{fuel:Nat}{cs:List Value}{x:DataW H×List MemPlace}(ht:P.underlying t=some (.struct #[f0,f1,f2]))(h:DataW.trod enc P w base spare held fuel t cs=some x):∃ y0 y1 y2 n,cs.length=P.cellsOf t∧DataW.trod enc P w base spare held n f0.type ((cs.drop f0.offset).take (P.cellsOf f0.type))=some y0 ∧
   DataW.trod enc P w base spare held n f1.type ((cs.drop f1.offset).take (P.cellsOf f1.type))=some y1 ∧
   DataW.trod enc P w base spare held n f2.type ((cs.drop f2.offset).take (P.cellsOf f2.type))=some y2:=by
 obtain⟨xs,n,_,_,hl,hlen,hf⟩:=DataW.trod_struct ht h
 match xs,hlen with
 | [y0,y1,y2],_=>exact⟨y0,y1,y2,n,hl,by simpa using hf 0 f0 rfl,by simpa using hf 1 f1 rfl,by simpa using hf 2 f2 rfl⟩
theorem cut_at{α:Type}(cs:List α)(n k:Nat):cs.drop n=(cs.drop n).take k++cs.drop (n+k):=by rw [← List.drop_drop];exact (List.take_append_drop k _).symm
theorem rd_circ{fuel:Nat}{cs:List Value}{x:DataW H×List MemPlace}(h:DataW.trod enc Tryz.prog w base spare held fuel 69 cs=some x):∃ r:RCi,cs=(rciC r).toList:=by
 obtain⟨y0,y1,y2,n,hl,h0,h1,h2⟩:=trod_struct3 Tryz.underlying69 h
 obtain⟨a,e0⟩:=rd_frac h0
 obtain⟨b,e1⟩:=rd_gauss h1
 obtain⟨c,e2⟩:=rd_frac h2
 rw [show Tryz.prog.cellsOf 69=16 by kernel_rfl] at hl
 rw [show Tryz.prog.cellsOf 25=4 by kernel_rfl] at e0 e2
 rw [show Tryz.prog.cellsOf 27=8 by kernel_rfl] at e1
 refine⟨⟨a,b,c⟩,?_⟩
 have e0' : (cs.drop 0).take 4=_:=e0
 have e1' : (cs.drop 4).take 8=_:=e1
 have e2' : (cs.drop 12).take 4=_:=e2
 have e3:cs.drop 12=(cs.drop 12).take 4:=(List.take_of_length_le (by rw [List.length_drop,hl];decide)).symm
 have e:cs=(cs.drop 0).take 4++((cs.drop 4).take 8++cs.drop 12):=by
  rw [← cut_at cs 4 8,← cut_at cs 0 4,List.drop_zero]
 rw [e,e3,e0', e1', e2']
 rfl
end
section
variable {H:Type} {enc:TypeId×Value→H} {w:World} {base:Nat} {spare:Nat→Bool} {held:Bool}
theorem trod_struct5{P:Program}{t:TypeId}{f0 f1 f2 f3 f4:Field}{fuel:Nat}{cs:List Value}{x:DataW H×List MemPlace}(ht:P.underlying t=some (.struct #[f0,f1,f2,f3,f4]))(h:DataW.trod enc P w base spare held fuel t cs=some x):∃ y0 y1 y2 y3 y4 n,cs.length=P.cellsOf t∧DataW.trod enc P w base spare held n f0.type ((cs.drop f0.offset).take (P.cellsOf f0.type))=some y0 ∧
   DataW.trod enc P w base spare held n f1.type ((cs.drop f1.offset).take (P.cellsOf f1.type))=some y1 ∧
   DataW.trod enc P w base spare held n f2.type ((cs.drop f2.offset).take (P.cellsOf f2.type))=some y2 ∧
   DataW.trod enc P w base spare held n f3.type ((cs.drop f3.offset).take (P.cellsOf f3.type))=some y3 ∧
   DataW.trod enc P w base spare held n f4.type ((cs.drop f4.offset).take (P.cellsOf f4.type))=some y4:=by
 obtain⟨xs,n,_,_,hl,hlen,hf⟩:=DataW.trod_struct ht h
 match xs,hlen with
 | [y0,y1,y2,y3,y4],_=>exact⟨y0,y1,y2,y3,y4,n,hl,by simpa using hf 0 f0 rfl,by simpa using hf 1 f1 rfl,by simpa using hf 2 f2 rfl,by simpa using hf 3 f3 rfl,by simpa using hf 4 f4 rfl⟩
end
section
variable {H:Type} {enc:TypeId×Value→H} {w:World} {base:Nat} {spare:Nat→Bool} {held:Bool}
def nmC(z u:RG)(x:RF)(c:RCi)(s:Int):List Value:=(rgC z).toList++((rgC u).toList++((rfC x).toList++((rciC c).toList++[.int .i64 s])))
theorem cutN{α:Type}(cs:List α):cs=(cs.drop 0).take 8++((cs.drop 8).take 8++((cs.drop 16).take 4++((cs.drop 20).take 16++cs.drop 36))):=by
 have h:∀ n k,cs.drop n=(cs.drop n).take k++cs.drop (n+k):=fun n k=>by rw [← List.drop_drop];exact (List.take_append_drop k _).symm
 rw [← h 20 16,← h 16 4,← h 8 8,← h 0 8,List.drop_zero]
theorem rd_nums{fuel:Nat}{cs:List Value}{x:DataW H×List MemPlace}(h:DataW.trod enc Tryz.prog w base spare held fuel 88 cs=some x):∃ z u y c s,cs=nmC z u y c s:=by
 obtain⟨y0,y1,y2,y3,y4,n,hl,h0,h1,h2,h3,h4⟩:=trod_struct5 Tryz.underlying88 h
 obtain⟨a,e0⟩:=rd_gauss h0
 obtain⟨b,e1⟩:=rd_gauss h1
 obtain⟨c,e2⟩:=rd_frac h2
 obtain⟨d,e3⟩:=rd_circ h3
 obtain⟨t,e4,_⟩:=DataW.trod_int Tryz.underlying3 h4
 rw [show Tryz.prog.cellsOf 88=37 by kernel_rfl] at hl
 rw [show Tryz.prog.cellsOf 27=8 by kernel_rfl] at e0 e1
 rw [show Tryz.prog.cellsOf 25=4 by kernel_rfl] at e2
 rw [show Tryz.prog.cellsOf 69=16 by kernel_rfl] at e3
 rw [show Tryz.prog.cellsOf 3=1 by kernel_rfl] at e4
 refine⟨a,b,c,d,t,?_⟩
 rw [cutN cs]
 have e5:cs.drop 36=[.int .i64 t]:=by
  rw [← e4]
  exact (List.take_of_length_le (by rw [List.length_drop,hl];decide)).symm
 have e0' : (cs.drop 0).take 8=_:=e0
 have e1' : (cs.drop 8).take 8=_:=e1
 have e2' : (cs.drop 16).take 4=_:=e2
 have e3' : (cs.drop 20).take 16=_:=e3
 rw [e5,e0', e1', e2', e3']
 rfl
theorem open_nums{r:Reach}{b0:Nat}{v:Value}{d:DataW H}{p:List MemPlace}(hv:Value.okWide Tryz.prog w r b0 88 v)(h:DataW.Trod enc Tryz.prog w base spare held 88 v d p):∃ q:RG×RG×RF×RCi×Int,v=.agg ⟨nmC q.1 q.2.1 q.2.2.1 q.2.2.2.1 q.2.2.2.2⟩:=by
 obtain⟨cs,rfl,_⟩:=okWide_struct Tryz.underlying88 hv
 obtain⟨fuel,hf⟩:=h
 obtain⟨z,u,y,c,s,e⟩:=rd_nums hf
 refine⟨⟨z,u,y,c,s⟩,?_⟩
 rw [show cs=⟨nmC z u y c s⟩ from Array.ext' e]
end
end Go.Proofs.YtcboejgklgnifaaGreat
namespace Go.Proofs.YtcboejgklgnifaaGreat
open Go.ChangeShapes Go.WideShapes Go.ChangeAt Go.RowKit Go.WideElems
theorem law_own:ownKnob Tryz.prog.godebug=none:=by kernel_rfl
theorem law_laid:laidOutB Tryz.prog=true:=by kernel_rfl
section
variable {H:Type} {enc:TypeId×Value→H}
theorem trodAll_stays{W W': World}{sp:Nat→Bool}:∀ {ts:List TypeId} {vs:List Value} {ds:List (DataW H)} {ps:List MemPlace},(∀ t ∈ ts,Tryz.prog.readableRec t=true∧t<Tryz.prog.types.size) →
  DataW.TrodAll enc Tryz.prog W 0 (fun _=>true) true ts vs ds ps→(∀ p ∈ ps,W.sameAt W' p)→(∀ p ∈ ps,sp p.block=true)→DataW.TrodAll enc Tryz.prog W' 0 sp true ts vs ds ps:=by
 intro ts
 induction ts with
 | nil =>
  intro vs ds ps _ h _ _
  obtain⟨rfl,rfl,rfl⟩:=trodAll_nil h
  exact trodAll_mk0
 | cons t ts ih =>
  intro vs ds ps ht h hs hb
  obtain⟨v,vs', d,ds', p,p', rfl,rfl,rfl,h0,h1⟩:=trodAll_cons h
  obtain⟨h2,h3⟩:=ht t (by simp)
  exact trodAll_cons_mk (Trod_stays law_laid h2 h3 h0 (fun q hq=>hs q (by simp [hq])) (fun q hq=>hb q (by simp [hq]))) (ih (fun t ht' => ht t (by simp [ht'])) h1 (fun q hq=>hs q (by simp [hq])) (fun q hq=>hb q (by simp [hq])))
theorem law_post{f:Func}{s:ChangeSpec}{fresh handsOn again:Bool}{W W': World}{args:Array Value}{ds gs:List (DataW H)}{before:List MemPlace}(hW:DataW.Whole enc Tryz.prog f.params.toList s.vars false W args.toList ds gs before)(hv:s.vars=[])(hfn:s.fn H ds={ results:=[.lit (.bool true)],args:=ds })(hr:f.resultTypes=#[4])(hp:f.params.toList.all (fun t=>Tryz.prog.readableRec t&&decide (t<Tryz.prog.types.size))=true)(hb:Below W.heap.size W W'):s.post enc Tryz.prog f false fresh handsOn again W args (.bool true) W' := by
 have hlt:∀ p ∈ before,p.block<W.heap.size:=fun p hq=>hW.lt p hq
 have hW' := hW
 obtain⟨p,q,hA,hV,rfl,hfz,hnd⟩:=hW
 rw [hv] at hV
 obtain⟨rfl,rfl⟩:=trodVars_none hV
 have hpar:∀ t ∈ f.params.toList,Tryz.prog.readableRec t=true∧t<Tryz.prog.types.size:=fun t ht=>by
  have:=List.all_eq_true.1 hp t ht
  simpa using this
 have hargs:∀ sp:Nat→Bool,(∀ x ∈ p++[],sp x.block=true)→DataW.TrodAll enc Tryz.prog W' 0 sp true f.params.toList args.toList ds p:=fun sp hs =>
  trodAll_stays hpar hA (fun x hx=>hb.same (hlt x (by simp [hx]))) (fun x hx=>hs x (by simp [hx]))
 have hres:∀ (b:Nat) (sp:Nat→Bool) (hd:Bool),DataW.TrodAll enc Tryz.prog W' b sp hd f.resultTypes.toList (Value.resultList f.resultTypes.size (.bool true)) [.lit (.bool true)] []:=fun _ _ _=>by
  rw [hr]
  exact trodAll_cons_mk (shut_bool Tryz.underlying4 _) trodAll_mk0
 have hold:∀ x ∈ p++[],(fun b=>decide (b<W.heap.size)) x.block=true:=fun x hx=>by simpa using hlt x hx
 have hfn' : s.fn H (ds++[])={ results:=[.lit (.bool true)],args:=ds }:=by rw [List.append_nil];exact hfn
 refine⟨ds,[],p++[],[],p,[],hW', by rw [hfn'];exact hres _ _ _,by rw [hfn'];exact hargs _ hold,by rw [hv,hfn'];rfl,World.keptBut_mono (fun x hx=>⟨hx,?_⟩) (hb.frame (· ∈ p++[])),fun _=>?_⟩
 ·simpa using hx
 ·refine⟨ok_one hr rfl (okWide_bool_mk Tryz.underlying4 _),_,[],([]++p)++[],⟨[]++p,[],trodAll_append (hargs _ (fun _ _=>rfl)) (hres _ _ _),by rw [hv];rfl,rfl,?_,?_⟩,?_⟩
  ·intro b off hx
   have hin:MemPlace.cell b off ∈ p++[]:=by simpa using hx
   rw [hb.frozen (hlt _ hin)]
   exact hfz b off hin
  ·intro ha
   have:=hnd ha
   simpa using this
  ·intro x hx _
   simpa using hx
end
end Go.Proofs.YtcboejgklgnifaaGreat
namespace Go.Proofs.YtcboejgklgnifaaGreat.diskMakesLaw
open Go.ChangeShapes Go.WideShapes Go.ChangeAt Go.RowKit
theorem lLaw{W:World}(q:RG×RG×RF×RCi×Int):Calls Tryz.prog 6 #[.agg ⟨nmC q.1 q.2.1 q.2.2.1 q.2.2.2.1 q.2.2.2.2⟩] W (RetV (.bool true) W):=by
 obtain⟨z,w,x,c,s⟩:=q
 have e:nmC z w x c s=(rgC z).toList++(rgC w).toList++(rfC x).toList++(rciC c).toList++[.int .i64 s]:=by simp only [nmC,List.append_assoc]
 show Calls Tryz.prog 6 #[.agg ⟨nmC z w x c s⟩] W (RetV (.bool true) W)
 rw [e]
 clear e
 cases h0:(lgE z||lgE w||lgE c.b) with
 | true=>exact lDmL0 z w x c s h0
 | false=>cases h1:lgD x with
  | true=>exact lDmL1 z w x c s h0 h1
  | false=>cases h2:lgD c.a with
   | true=>exact lDmL2 z w x c s h0 h1 h2
   | false=>cases h3:lgD c.c with
    | true=>exact lDmL3 z w x c s h0 h1 h2 h3
    | false=>cases h4:gmay z with
     | false=>exact lDmZ z w x c s h0 h1 h2 h3 h4
     | true=>cases h5:fmay x<;>cases h6:((valM x).num.sign == 0)<;>cases h7:gmay w<;>cases h8:(gvm z).zero<;>cases h9:isSq (gvm z).norm <;>
      first
      | exact lDm00 z w x c s h0 h1 h2 h3 h4 h5 h7
      | exact lDm01 z w x c s h0 h1 h2 h3 h4 h5 h7 h8
      | exact lDm02 z w x c s h0 h1 h2 h3 h4 h5 h7 h8 h9
      | exact lDm03 z w x c s h0 h1 h2 h3 h4 h5 h7 h8 h9
      | exact lDm10 z w x c s h0 h1 h2 h3 h4 h5 h6 h7
      | exact lDm11 z w x c s h0 h1 h2 h3 h4 h5 h6 h7 h8
      | exact lDm12 z w x c s h0 h1 h2 h3 h4 h5 h6 h7 h8 h9
      | exact lDm13 z w x c s h0 h1 h2 h3 h4 h5 h6 h7 h8 h9
      | exact lDm20 z w x c s h0 h1 h2 h3 h4 h5 h6 h7
      | exact lDm21 z w x c s h0 h1 h2 h3 h4 h5 h6 h7 h8
      | exact lDm22 z w x c s h0 h1 h2 h3 h4 h5 h6 h7 h8 h9
      | exact lDm23 z w x c s h0 h1 h2 h3 h4 h5 h6 h7 h8 h9
theorem contract(H:Type)(enc:TypeId×Value→H)(W:World)(base:Nat)(args:Array Value)(ds gs:List (DataW H))(before:List MemPlace)(hval:∀ (j:Nat) t v,Tryz.f6.params[j]? = some t→args[j]? = some v→Value.okWide Tryz.prog W .any base t v)(hW:DataW.Whole enc Tryz.prog Tryz.f6.params.toList Rows.diskMakesSpec.vars false W args.toList ds gs before):Calls Tryz.prog 6 args W fun e W' => ∃ v,e=.returned v∧Rows.diskMakesSpec.post enc Tryz.prog Tryz.f6 false true false false W args v W' := by
 have hW' := hW
 obtain⟨p,q,hA,hV,rfl,hfz,hnd⟩:=hW
 rw [Tryz.params6] at hA hval
 obtain⟨v0,vs0,d0,ds0,p0,q0,hargs,rfl,rfl,h0,r0⟩:=trodAll_cons hA
 obtain⟨rfl,rfl,rfl⟩:=trodAll_nil r0
 obtain rfl:args=#[v0]:=by cases args;simp_all
 obtain⟨rfl,rfl⟩:=trodVars_none hV
 obtain⟨q,rfl⟩:=open_nums (hval 0 _ v0 rfl rfl) h0
 refine (lLaw q).mono fun e W' h=>?_
 obtain⟨h1,h2⟩:=h.is
 exact⟨_,h1,law_post hW' rfl rfl rfl (by kernel_rfl) h2⟩
theorem lifted(os:Os)(started:os.Started)(H:Type)(enc:TypeId×Value→H):ReturnsInHanded {} Tryz.checked os 6 .any (Rows.diskMakesSpec.pre6 enc Tryz.prog Tryz.f6 Rows.diskMakesRow.domain false) (Rows.diskMakesSpec.post enc Tryz.prog Tryz.f6 false true false false):=by
 refine returnsInHanded_of_change (C:=Tryz.checked) law_own started (by kernel_rfl) Tryz.func6
  (ChangeSpec.witness6 (enc:=enc) (C:=Tryz.checked) false ⟨#[],#[.agg #[.bool false,.string ⟨#[]⟩,.bool false,.string ⟨#[]⟩,.bool false,.string ⟨#[]⟩,.bool false,.string ⟨#[]⟩,.bool false,.string ⟨#[]⟩,.bool false,.string ⟨#[]⟩,.bool false,.string ⟨#[]⟩,.bool false,.string ⟨#[]⟩,.bool false,.string ⟨#[]⟩,.bool false,.string ⟨#[]⟩,.bool false,.string ⟨#[]⟩,.bool false,.string ⟨#[]⟩,.bool false,.string ⟨#[]⟩,.bool false,.string ⟨#[]⟩,.bool false,.string ⟨#[]⟩,.bool false,.string ⟨#[]⟩,.bool false,.string ⟨#[]⟩,.bool false,.string ⟨#[]⟩,.int .i64 0]],[]⟩ 8 (by kernel_rfl) (by kernel_rfl) (by kernel_rfl) (by kernel_rfl)) ?_
 intro W base args ds gs before hval hW _ _
 exact contract H enc W base args ds gs before hval hW
theorem kA:Tryz.pinned.checked.prog.funcNamed Rows.diskMakesRow.func=some 6:=by kernel_rfl
theorem laidP:laidOutB Tryz.pinned.checked.prog=true:=law_laid
theorem kB:joinedFacts Tryz.pinned.checked.prog 6 Tryz.f6 Rows.diskMakesSpec Rows.diskMakesRow=true:=by
 unfold joinedFacts
 simp only [Bool.and_eq_true]
 repeat' apply And.intro
 all_goals first|with_reducible exact laidP|as_aux_lemma=>kernel_rfl
theorem kC:Tryz.f6.isInstance Tryz.pinned.checked.prog Rows.diskMakesRow.origin Rows.diskMakesRow.targs:=of_decide_eq_true (by kernel_rfl)
theorem kD:Tryz.f6.isWrapper Tryz.pinned.checked.prog Rows.diskMakesRow.wrapper Rows.diskMakesRow.mainSum:=by
 unfold Func.isWrapper;first|(rw [if_pos (by decide +kernel)];kernel_rfl)|(rw [if_neg (by decide +kernel)];exact⟨rfl,rfl⟩)
theorem over:Rows.DiskMakesSaid :=
 OpenClaim.holds_of_wide 6 Tryz.f6 rfl rfl rfl rfl rfl rfl rfl ⟨rfl,rfl,rfl,rfl,rfl⟩ rfl rfl rfl rfl rfl kA Tryz.func6 kB kC kD
  (fun os started H enc _=>lifted os started H enc)
end Go.Proofs.YtcboejgklgnifaaGreat.diskMakesLaw
namespace Go.Proofs.YtcboejgklgnifaaGreat
theorem diskMakes_proved:Rows.DiskMakesSaid:=diskMakesLaw.over
end Go.Proofs.YtcboejgklgnifaaGreat
