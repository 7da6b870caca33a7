/- tracerylaw20.DiskRule returns true for any three disks and any place, and changes nothing that it was handed. No condition. -/
import Derived.Test.YtcdbmjnipaochaaGreatP05
import Derived.ChangeKeysEq
import Derived.ProofKit
import Derived.OpenShut
import Derived.JoinedCond
import Derived.Deep.Slices
import Derived.Deep.Strs
import Derived.Test.YtcdbmjnipaochaaGreatRows
import Derived.WalkKit
import Derived.Below
import Derived.ChangeSame
import Derived.WideKeyArgs
import Derived.JoinedOf
import Derived.JoinedAt
set_option linter.unusedVariables false
set_option linter.unusedSimpArgs false
set_option maxHeartbeats 8000000
set_option maxRecDepth 100000
namespace Go.Proofs.YtcdbmjnipaochaaGreat
open Go.RowKit Rgn Eng
variable {S:Nat→Prop} {W:World}
theorem rtLoop{R0:Option (Q4×List Int)×Int}(cp r:Nat):∀ (cap n:Nat) (L:List Int) (a b c d:Ci),n+r=4097→n=L.length→(0<n∧n≤4096)→ht a.a+ht a.b.re+ht a.b.im+ht a.c≤40000→ht b.a+ht b.b.re+ht b.b.im+ht b.c≤40000→ht c.a+ht c.b.re+ht c.b.im+ht c.c≤40000→ht d.a+ht d.b.re+ht d.b.im+ht d.c≤40000→rootF r (Q4.mk a b c d) L=R0 →
    Run Tryz.prog Z0 W (Q4.mk a b c d).C (ringF [a,b,c,d]) (bodyPost Tryz.prog Tryz.f16 (RootPost R0 W)) (stLp Tryz.f16 r 64 16 [(1,.s (.o (.p 0 0))),(2,.s (.o (.p 1 0))),(5,.s (.o (.sl 2 0 4 (cp+4)))),(7,.s (.o (.ls 3 n (cap+n))))] [⟨30,ks 0 64,true,none,false⟩,⟨30,Q4.z.map At.c,true,none,false⟩,⟨147,mkT::vs 0 16,true,none,false⟩,⟨3,[mkL ((cap+n)*1) (intsC L)],true,none,false⟩]):=by
 induction r with
 | zero=>intro cap n L a b c d h1 _ h3;omega
 | succ r ih =>
   intro cap n L a b c d h1 h2 h3 ha hb hc hd h4
   refine Run.dr ?_
   refine RunD.cV [.int .i64 (icmp (a.a.num*(a.a.den:Int)) (a.a.num*(a.a.den:Int)))] kb (fun _ _ _ H=>qCmp a.a a.a (H.f 0) (H.f 0) (by omega)) ?_
   refine RunD.bi [] (cb false) (fun _ _ _ o1 o2 _ ho hx hy=>ex_icmp .gtr 3 (icmp (a.a.num*(a.a.den:Int)) (a.a.num*(a.a.den:Int))) 0 (kk:=.i64) rfl ho hx hy) ?_ (hV:=fun _ _=>congrArg Value.bool (gt_self a.a))
   refine RunD.en ?_
   refine (Bool.eq_false_or_eq_true (gtB b.a a.a)).elim (fun g1=>?_) (fun g1=>?_)
   ·
     refine Run.dr ?_
     refine RunD.cV [.int .i64 (icmp (b.a.num*(a.a.den:Int)) (a.a.num*(b.a.den:Int)))] kb (fun _ _ _ H=>qCmp b.a a.a (H.f 4) (H.f 0) (by omega)) ?_
     refine RunD.bi [] (cb true) (fun _ _ _ o1 o2 _ ho hx hy=>ex_icmp .gtr 3 (icmp (b.a.num*(a.a.den:Int)) (a.a.num*(b.a.den:Int))) 0 (kk:=.i64) rfl ho hx hy) ?_ (hV:=fun _ _=>congrArg Value.bool g1)
     refine RunD.en ?_
     refine (Bool.eq_false_or_eq_true (gtB c.a b.a)).elim (fun g2=>?_) (fun g2=>?_)
     ·
       refine Run.dr ?_
       refine RunD.cV [.int .i64 (icmp (c.a.num*(b.a.den:Int)) (b.a.num*(c.a.den:Int)))] kb (fun _ _ _ H=>qCmp c.a b.a (H.f 8) (H.f 4) (by omega)) ?_
       refine RunD.bi [] (cb true) (fun _ _ _ o1 o2 _ ho hx hy=>ex_icmp .gtr 3 (icmp (c.a.num*(b.a.den:Int)) (b.a.num*(c.a.den:Int))) 0 (kk:=.i64) rfl ho hx hy) ?_ (hV:=fun _ _=>congrArg Value.bool g2)
       refine RunD.en ?_
       refine (Bool.eq_false_or_eq_true (gtB d.a c.a)).elim (fun g3=>?_) (fun g3=>?_)
       ·
         refine Run.dr ?_
         refine RunD.cV [.int .i64 (icmp (d.a.num*(c.a.den:Int)) (c.a.num*(d.a.den:Int)))] kb (fun _ _ _ H=>qCmp d.a c.a (H.f 12) (H.f 8) (by omega)) ?_
         refine RunD.bi [] (cb true) (fun _ _ _ o1 o2 _ ho hx hy=>ex_icmp .gtr 3 (icmp (d.a.num*(c.a.den:Int)) (c.a.num*(d.a.den:Int))) 0 (kk:=.i64) rfl ho hx hy) ?_ (hV:=fun _ _=>congrArg Value.bool g3)
         refine RunD.en ?_
         have ht:(Q4.mk a b c d).top=3:=by simp [Q4.top,g1,g2,g3]
         have e:rootF (r+1) (Q4.mk a b c d) L=if geB (Ci.swp a b c d d).a d.a=true then (some (Q4.mk a b c d,L),0) else if L.length=4096 then (none,3) else if cifits (rci (Ci.swp a b c d d))=true then rootF r (Q4.mk a b c (Ci.swp a b c d d)) (L++[3]) else (none,4):=(rootF_s _ _ _ ht).trans (by rw [sw_3,at_3,at_3])
         have g0:=swp_ht a b c d d
         refine Run.cR spRing (fun _ _ _ H=>swp3 cp a b c d (H.br 2) (RingP.mk (H.f 0) (H.f 1) (H.f 2) (H.f 3)) (RingP.mk (H.f 4) (H.f 5) (H.f 6) (H.f 7)) (RingP.mk (H.f 8) (H.f 9) (H.f 10) (H.f 11)) (RingP.mk (H.f 12) (H.f 13) (H.f 14) (H.f 15)) (by omega) (by omega) (by omega) (by omega)) ?_
         refine (Bool.eq_false_or_eq_true (geB (Ci.swp a b c d d).a d.a)).elim (fun hs=>?_) (fun hs=>?_)
         ·
           rw [if_pos hs,h4] at e
           refine Run.dr ?_
           refine RunD.cV [.int .i64 (icmp ((Ci.swp a b c d d).a.num*(d.a.den:Int)) (d.a.num*((Ci.swp a b c d d).a.den:Int)))] kb (fun _ _ _ H=>qCmp (Ci.swp a b c d d).a d.a (H.f 16) (H.f 12) (by omega)) ?_
           refine RunD.bi [] (cb true) (fun _ _ _ o1 o2 _ ho hx hy=>ex_icmp .geq 3 (icmp ((Ci.swp a b c d d).a.num*(d.a.den:Int)) (d.a.num*((Ci.swp a b c d d).a.den:Int))) 0 (kk:=.i64) rfl ho hx hy) ?_ (hV:=fun _ _=>congrArg Value.bool hs)
           refine RunD.en ?_
           exact Run.pq (rp_L e h2 h3.1) (Run.rL 3 cap (.tup [.agg (ks 0 64),.o (.ls 3 n (cap+n)),.o (.c (.int .i64 0))]))
         ·
           rw [if_neg (by rw [hs];decide)] at e
           refine Run.dr ?_
           refine RunD.cV [.int .i64 (icmp ((Ci.swp a b c d d).a.num*(d.a.den:Int)) (d.a.num*((Ci.swp a b c d d).a.den:Int)))] kb (fun _ _ _ H=>qCmp (Ci.swp a b c d d).a d.a (H.f 16) (H.f 12) (by omega)) ?_
           refine RunD.bi [] (cb false) (fun _ _ _ o1 o2 _ ho hx hy=>ex_icmp .geq 3 (icmp ((Ci.swp a b c d d).a.num*(d.a.den:Int)) (d.a.num*((Ci.swp a b c d d).a.den:Int))) 0 (kk:=.i64) rfl ho hx hy) ?_ (hV:=fun _ _=>congrArg Value.bool hs)
           refine RunD.en ?_
           refine Run.ln n 31 ?_
           by_cases hn:n=4096
           · rw [if_pos (h2.symm.trans hn),h4] at e
             refine Run.ik .eql n 4096 true (dT (by omega)) ?_
             exact Run.pq (rp_n e) (Run.rV rfl)
           rw [if_neg (fun h=>hn (h2.trans h))] at e
           refine Run.ik .eql n 4096 false (dF (by omega)) ?_
           refine Run.sm 2 12 ?_
           refine (Bool.eq_false_or_eq_true (cifits (rci (Ci.swp a b c d d)))).elim (fun hf=>?_) (fun hf=>?_)
           ·
             rw [if_pos hf,h4] at e
             refine Run.cV ((ciC (Ci.swp a b c d d)).toList) (.tup [.agg (ks 0 16),.o (.c (.int .i64 0))]) (fun _ _ _ H=>dsToF (Ci.swp a b c d d) (RingP.mk (H.f 16) (H.f 17) (H.f 18) (H.f 19)) (by omega) hf) ?_
             refine Run.al 31 3 n cap 5 (intsC L) (intsC (L++[3])) [.int .i64 3] 1 (by omega) (by rw [intsC_size,← h2]) (intsC_app L 3) (fun cq=>?_)
             refine Run.te 3 ?_
             exact Run.as (fun k=>if 12≤k∧k<16 then k+4 else k) id (ih cq (n+1) (L++[3]) a b c (Ci.swp a b c d d) (by omega) (by simp;omega) (by omega) ha hb hc (cifits_ht hf) e.symm) (hc:=by kernel_rfl) (hk:=by kernel_rfl)
           ·
             rw [if_neg (by rw [hf];decide),h4] at e
             refine Run.cV ((rciC rzCi).toList) (.tup [.agg (ks 0 16),.o (.c (.int .i64 4))]) (fun _ _ _ H=>dsToN (Ci.swp a b c d d) (RingP.mk (H.f 16) (H.f 17) (H.f 18) (H.f 19)) (by omega) hf) ?_
             exact Run.pq (rp_n e) (Run.rV rfl)
       ·
         refine Run.dr ?_
         refine RunD.cV [.int .i64 (icmp (d.a.num*(c.a.den:Int)) (c.a.num*(d.a.den:Int)))] kb (fun _ _ _ H=>qCmp d.a c.a (H.f 12) (H.f 8) (by omega)) ?_
         refine RunD.bi [] (cb false) (fun _ _ _ o1 o2 _ ho hx hy=>ex_icmp .gtr 3 (icmp (d.a.num*(c.a.den:Int)) (c.a.num*(d.a.den:Int))) 0 (kk:=.i64) rfl ho hx hy) ?_ (hV:=fun _ _=>congrArg Value.bool g3)
         refine RunD.en ?_
         have ht:(Q4.mk a b c d).top=2:=by simp [Q4.top,g1,g2,g3]
         have e:rootF (r+1) (Q4.mk a b c d) L=if geB (Ci.swp a b c d c).a c.a=true then (some (Q4.mk a b c d,L),0) else if L.length=4096 then (none,3) else if cifits (rci (Ci.swp a b c d c))=true then rootF r (Q4.mk a b (Ci.swp a b c d c) d) (L++[2]) else (none,4):=(rootF_s _ _ _ ht).trans (by rw [sw_2,at_2,at_2])
         have g0:=swp_ht a b c d c
         refine Run.cR spRing (fun _ _ _ H=>swp2 cp a b c d (H.br 2) (RingP.mk (H.f 0) (H.f 1) (H.f 2) (H.f 3)) (RingP.mk (H.f 4) (H.f 5) (H.f 6) (H.f 7)) (RingP.mk (H.f 8) (H.f 9) (H.f 10) (H.f 11)) (RingP.mk (H.f 12) (H.f 13) (H.f 14) (H.f 15)) (by omega) (by omega) (by omega) (by omega)) ?_
         refine (Bool.eq_false_or_eq_true (geB (Ci.swp a b c d c).a c.a)).elim (fun hs=>?_) (fun hs=>?_)
         ·
           rw [if_pos hs,h4] at e
           refine Run.dr ?_
           refine RunD.cV [.int .i64 (icmp ((Ci.swp a b c d c).a.num*(c.a.den:Int)) (c.a.num*((Ci.swp a b c d c).a.den:Int)))] kb (fun _ _ _ H=>qCmp (Ci.swp a b c d c).a c.a (H.f 16) (H.f 8) (by omega)) ?_
           refine RunD.bi [] (cb true) (fun _ _ _ o1 o2 _ ho hx hy=>ex_icmp .geq 3 (icmp ((Ci.swp a b c d c).a.num*(c.a.den:Int)) (c.a.num*((Ci.swp a b c d c).a.den:Int))) 0 (kk:=.i64) rfl ho hx hy) ?_ (hV:=fun _ _=>congrArg Value.bool hs)
           refine RunD.en ?_
           exact Run.pq (rp_L e h2 h3.1) (Run.rL 3 cap (.tup [.agg (ks 0 64),.o (.ls 3 n (cap+n)),.o (.c (.int .i64 0))]))
         ·
           rw [if_neg (by rw [hs];decide)] at e
           refine Run.dr ?_
           refine RunD.cV [.int .i64 (icmp ((Ci.swp a b c d c).a.num*(c.a.den:Int)) (c.a.num*((Ci.swp a b c d c).a.den:Int)))] kb (fun _ _ _ H=>qCmp (Ci.swp a b c d c).a c.a (H.f 16) (H.f 8) (by omega)) ?_
           refine RunD.bi [] (cb false) (fun _ _ _ o1 o2 _ ho hx hy=>ex_icmp .geq 3 (icmp ((Ci.swp a b c d c).a.num*(c.a.den:Int)) (c.a.num*((Ci.swp a b c d c).a.den:Int))) 0 (kk:=.i64) rfl ho hx hy) ?_ (hV:=fun _ _=>congrArg Value.bool hs)
           refine RunD.en ?_
           refine Run.ln n 31 ?_
           by_cases hn:n=4096
           · rw [if_pos (h2.symm.trans hn),h4] at e
             refine Run.ik .eql n 4096 true (dT (by omega)) ?_
             exact Run.pq (rp_n e) (Run.rV rfl)
           rw [if_neg (fun h=>hn (h2.trans h))] at e
           refine Run.ik .eql n 4096 false (dF (by omega)) ?_
           refine Run.sm 2 8 ?_
           refine (Bool.eq_false_or_eq_true (cifits (rci (Ci.swp a b c d c)))).elim (fun hf=>?_) (fun hf=>?_)
           ·
             rw [if_pos hf,h4] at e
             refine Run.cV ((ciC (Ci.swp a b c d c)).toList) (.tup [.agg (ks 0 16),.o (.c (.int .i64 0))]) (fun _ _ _ H=>dsToF (Ci.swp a b c d c) (RingP.mk (H.f 16) (H.f 17) (H.f 18) (H.f 19)) (by omega) hf) ?_
             refine Run.al 31 3 n cap 5 (intsC L) (intsC (L++[2])) [.int .i64 2] 1 (by omega) (by rw [intsC_size,← h2]) (intsC_app L 2) (fun cq=>?_)
             refine Run.te 3 ?_
             exact Run.as (fun k=>if 8≤k∧k<12 then k+8 else k) id (ih cq (n+1) (L++[2]) a b (Ci.swp a b c d c) d (by omega) (by simp;omega) (by omega) ha hb (cifits_ht hf) hd e.symm) (hc:=by kernel_rfl) (hk:=by kernel_rfl)
           ·
             rw [if_neg (by rw [hf];decide),h4] at e
             refine Run.cV ((rciC rzCi).toList) (.tup [.agg (ks 0 16),.o (.c (.int .i64 4))]) (fun _ _ _ H=>dsToN (Ci.swp a b c d c) (RingP.mk (H.f 16) (H.f 17) (H.f 18) (H.f 19)) (by omega) hf) ?_
             exact Run.pq (rp_n e) (Run.rV rfl)
     ·
       refine Run.dr ?_
       refine RunD.cV [.int .i64 (icmp (c.a.num*(b.a.den:Int)) (b.a.num*(c.a.den:Int)))] kb (fun _ _ _ H=>qCmp c.a b.a (H.f 8) (H.f 4) (by omega)) ?_
       refine RunD.bi [] (cb false) (fun _ _ _ o1 o2 _ ho hx hy=>ex_icmp .gtr 3 (icmp (c.a.num*(b.a.den:Int)) (b.a.num*(c.a.den:Int))) 0 (kk:=.i64) rfl ho hx hy) ?_ (hV:=fun _ _=>congrArg Value.bool g2)
       refine RunD.en ?_
       refine (Bool.eq_false_or_eq_true (gtB d.a b.a)).elim (fun g3=>?_) (fun g3=>?_)
       ·
         refine Run.dr ?_
         refine RunD.cV [.int .i64 (icmp (d.a.num*(b.a.den:Int)) (b.a.num*(d.a.den:Int)))] kb (fun _ _ _ H=>qCmp d.a b.a (H.f 12) (H.f 4) (by omega)) ?_
         refine RunD.bi [] (cb true) (fun _ _ _ o1 o2 _ ho hx hy=>ex_icmp .gtr 3 (icmp (d.a.num*(b.a.den:Int)) (b.a.num*(d.a.den:Int))) 0 (kk:=.i64) rfl ho hx hy) ?_ (hV:=fun _ _=>congrArg Value.bool g3)
         refine RunD.en ?_
         have ht:(Q4.mk a b c d).top=3:=by simp [Q4.top,g1,g2,g3]
         have e:rootF (r+1) (Q4.mk a b c d) L=if geB (Ci.swp a b c d d).a d.a=true then (some (Q4.mk a b c d,L),0) else if L.length=4096 then (none,3) else if cifits (rci (Ci.swp a b c d d))=true then rootF r (Q4.mk a b c (Ci.swp a b c d d)) (L++[3]) else (none,4):=(rootF_s _ _ _ ht).trans (by rw [sw_3,at_3,at_3])
         have g0:=swp_ht a b c d d
         refine Run.cR spRing (fun _ _ _ H=>swp3 cp a b c d (H.br 2) (RingP.mk (H.f 0) (H.f 1) (H.f 2) (H.f 3)) (RingP.mk (H.f 4) (H.f 5) (H.f 6) (H.f 7)) (RingP.mk (H.f 8) (H.f 9) (H.f 10) (H.f 11)) (RingP.mk (H.f 12) (H.f 13) (H.f 14) (H.f 15)) (by omega) (by omega) (by omega) (by omega)) ?_
         refine (Bool.eq_false_or_eq_true (geB (Ci.swp a b c d d).a d.a)).elim (fun hs=>?_) (fun hs=>?_)
         ·
           rw [if_pos hs,h4] at e
           refine Run.dr ?_
           refine RunD.cV [.int .i64 (icmp ((Ci.swp a b c d d).a.num*(d.a.den:Int)) (d.a.num*((Ci.swp a b c d d).a.den:Int)))] kb (fun _ _ _ H=>qCmp (Ci.swp a b c d d).a d.a (H.f 16) (H.f 12) (by omega)) ?_
           refine RunD.bi [] (cb true) (fun _ _ _ o1 o2 _ ho hx hy=>ex_icmp .geq 3 (icmp ((Ci.swp a b c d d).a.num*(d.a.den:Int)) (d.a.num*((Ci.swp a b c d d).a.den:Int))) 0 (kk:=.i64) rfl ho hx hy) ?_ (hV:=fun _ _=>congrArg Value.bool hs)
           refine RunD.en ?_
           exact Run.pq (rp_L e h2 h3.1) (Run.rL 3 cap (.tup [.agg (ks 0 64),.o (.ls 3 n (cap+n)),.o (.c (.int .i64 0))]))
         ·
           rw [if_neg (by rw [hs];decide)] at e
           refine Run.dr ?_
           refine RunD.cV [.int .i64 (icmp ((Ci.swp a b c d d).a.num*(d.a.den:Int)) (d.a.num*((Ci.swp a b c d d).a.den:Int)))] kb (fun _ _ _ H=>qCmp (Ci.swp a b c d d).a d.a (H.f 16) (H.f 12) (by omega)) ?_
           refine RunD.bi [] (cb false) (fun _ _ _ o1 o2 _ ho hx hy=>ex_icmp .geq 3 (icmp ((Ci.swp a b c d d).a.num*(d.a.den:Int)) (d.a.num*((Ci.swp a b c d d).a.den:Int))) 0 (kk:=.i64) rfl ho hx hy) ?_ (hV:=fun _ _=>congrArg Value.bool hs)
           refine RunD.en ?_
           refine Run.ln n 31 ?_
           by_cases hn:n=4096
           · rw [if_pos (h2.symm.trans hn),h4] at e
             refine Run.ik .eql n 4096 true (dT (by omega)) ?_
             exact Run.pq (rp_n e) (Run.rV rfl)
           rw [if_neg (fun h=>hn (h2.trans h))] at e
           refine Run.ik .eql n 4096 false (dF (by omega)) ?_
           refine Run.sm 2 12 ?_
           refine (Bool.eq_false_or_eq_true (cifits (rci (Ci.swp a b c d d)))).elim (fun hf=>?_) (fun hf=>?_)
           ·
             rw [if_pos hf,h4] at e
             refine Run.cV ((ciC (Ci.swp a b c d d)).toList) (.tup [.agg (ks 0 16),.o (.c (.int .i64 0))]) (fun _ _ _ H=>dsToF (Ci.swp a b c d d) (RingP.mk (H.f 16) (H.f 17) (H.f 18) (H.f 19)) (by omega) hf) ?_
             refine Run.al 31 3 n cap 5 (intsC L) (intsC (L++[3])) [.int .i64 3] 1 (by omega) (by rw [intsC_size,← h2]) (intsC_app L 3) (fun cq=>?_)
             refine Run.te 3 ?_
             exact Run.as (fun k=>if 12≤k∧k<16 then k+4 else k) id (ih cq (n+1) (L++[3]) a b c (Ci.swp a b c d d) (by omega) (by simp;omega) (by omega) ha hb hc (cifits_ht hf) e.symm) (hc:=by kernel_rfl) (hk:=by kernel_rfl)
           ·
             rw [if_neg (by rw [hf];decide),h4] at e
             refine Run.cV ((rciC rzCi).toList) (.tup [.agg (ks 0 16),.o (.c (.int .i64 4))]) (fun _ _ _ H=>dsToN (Ci.swp a b c d d) (RingP.mk (H.f 16) (H.f 17) (H.f 18) (H.f 19)) (by omega) hf) ?_
             exact Run.pq (rp_n e) (Run.rV rfl)
       ·
         refine Run.dr ?_
         refine RunD.cV [.int .i64 (icmp (d.a.num*(b.a.den:Int)) (b.a.num*(d.a.den:Int)))] kb (fun _ _ _ H=>qCmp d.a b.a (H.f 12) (H.f 4) (by omega)) ?_
         refine RunD.bi [] (cb false) (fun _ _ _ o1 o2 _ ho hx hy=>ex_icmp .gtr 3 (icmp (d.a.num*(b.a.den:Int)) (b.a.num*(d.a.den:Int))) 0 (kk:=.i64) rfl ho hx hy) ?_ (hV:=fun _ _=>congrArg Value.bool g3)
         refine RunD.en ?_
         have ht:(Q4.mk a b c d).top=1:=by simp [Q4.top,g1,g2,g3]
         have e:rootF (r+1) (Q4.mk a b c d) L=if geB (Ci.swp a b c d b).a b.a=true then (some (Q4.mk a b c d,L),0) else if L.length=4096 then (none,3) else if cifits (rci (Ci.swp a b c d b))=true then rootF r (Q4.mk a (Ci.swp a b c d b) c d) (L++[1]) else (none,4):=(rootF_s _ _ _ ht).trans (by rw [sw_1,at_1,at_1])
         have g0:=swp_ht a b c d b
         refine Run.cR spRing (fun _ _ _ H=>swp1 cp a b c d (H.br 2) (RingP.mk (H.f 0) (H.f 1) (H.f 2) (H.f 3)) (RingP.mk (H.f 4) (H.f 5) (H.f 6) (H.f 7)) (RingP.mk (H.f 8) (H.f 9) (H.f 10) (H.f 11)) (RingP.mk (H.f 12) (H.f 13) (H.f 14) (H.f 15)) (by omega) (by omega) (by omega) (by omega)) ?_
         refine (Bool.eq_false_or_eq_true (geB (Ci.swp a b c d b).a b.a)).elim (fun hs=>?_) (fun hs=>?_)
         ·
           rw [if_pos hs,h4] at e
           refine Run.dr ?_
           refine RunD.cV [.int .i64 (icmp ((Ci.swp a b c d b).a.num*(b.a.den:Int)) (b.a.num*((Ci.swp a b c d b).a.den:Int)))] kb (fun _ _ _ H=>qCmp (Ci.swp a b c d b).a b.a (H.f 16) (H.f 4) (by omega)) ?_
           refine RunD.bi [] (cb true) (fun _ _ _ o1 o2 _ ho hx hy=>ex_icmp .geq 3 (icmp ((Ci.swp a b c d b).a.num*(b.a.den:Int)) (b.a.num*((Ci.swp a b c d b).a.den:Int))) 0 (kk:=.i64) rfl ho hx hy) ?_ (hV:=fun _ _=>congrArg Value.bool hs)
           refine RunD.en ?_
           exact Run.pq (rp_L e h2 h3.1) (Run.rL 3 cap (.tup [.agg (ks 0 64),.o (.ls 3 n (cap+n)),.o (.c (.int .i64 0))]))
         ·
           rw [if_neg (by rw [hs];decide)] at e
           refine Run.dr ?_
           refine RunD.cV [.int .i64 (icmp ((Ci.swp a b c d b).a.num*(b.a.den:Int)) (b.a.num*((Ci.swp a b c d b).a.den:Int)))] kb (fun _ _ _ H=>qCmp (Ci.swp a b c d b).a b.a (H.f 16) (H.f 4) (by omega)) ?_
           refine RunD.bi [] (cb false) (fun _ _ _ o1 o2 _ ho hx hy=>ex_icmp .geq 3 (icmp ((Ci.swp a b c d b).a.num*(b.a.den:Int)) (b.a.num*((Ci.swp a b c d b).a.den:Int))) 0 (kk:=.i64) rfl ho hx hy) ?_ (hV:=fun _ _=>congrArg Value.bool hs)
           refine RunD.en ?_
           refine Run.ln n 31 ?_
           by_cases hn:n=4096
           · rw [if_pos (h2.symm.trans hn),h4] at e
             refine Run.ik .eql n 4096 true (dT (by omega)) ?_
             exact Run.pq (rp_n e) (Run.rV rfl)
           rw [if_neg (fun h=>hn (h2.trans h))] at e
           refine Run.ik .eql n 4096 false (dF (by omega)) ?_
           refine Run.sm 2 4 ?_
           refine (Bool.eq_false_or_eq_true (cifits (rci (Ci.swp a b c d b)))).elim (fun hf=>?_) (fun hf=>?_)
           ·
             rw [if_pos hf,h4] at e
             refine Run.cV ((ciC (Ci.swp a b c d b)).toList) (.tup [.agg (ks 0 16),.o (.c (.int .i64 0))]) (fun _ _ _ H=>dsToF (Ci.swp a b c d b) (RingP.mk (H.f 16) (H.f 17) (H.f 18) (H.f 19)) (by omega) hf) ?_
             refine Run.al 31 3 n cap 5 (intsC L) (intsC (L++[1])) [.int .i64 1] 1 (by omega) (by rw [intsC_size,← h2]) (intsC_app L 1) (fun cq=>?_)
             refine Run.te 3 ?_
             exact Run.as (fun k=>if 4≤k∧k<8 then k+12 else k) id (ih cq (n+1) (L++[1]) a (Ci.swp a b c d b) c d (by omega) (by simp;omega) (by omega) ha (cifits_ht hf) hc hd e.symm) (hc:=by kernel_rfl) (hk:=by kernel_rfl)
           ·
             rw [if_neg (by rw [hf];decide),h4] at e
             refine Run.cV ((rciC rzCi).toList) (.tup [.agg (ks 0 16),.o (.c (.int .i64 4))]) (fun _ _ _ H=>dsToN (Ci.swp a b c d b) (RingP.mk (H.f 16) (H.f 17) (H.f 18) (H.f 19)) (by omega) hf) ?_
             exact Run.pq (rp_n e) (Run.rV rfl)
   ·
     refine Run.dr ?_
     refine RunD.cV [.int .i64 (icmp (b.a.num*(a.a.den:Int)) (a.a.num*(b.a.den:Int)))] kb (fun _ _ _ H=>qCmp b.a a.a (H.f 4) (H.f 0) (by omega)) ?_
     refine RunD.bi [] (cb false) (fun _ _ _ o1 o2 _ ho hx hy=>ex_icmp .gtr 3 (icmp (b.a.num*(a.a.den:Int)) (a.a.num*(b.a.den:Int))) 0 (kk:=.i64) rfl ho hx hy) ?_ (hV:=fun _ _=>congrArg Value.bool g1)
     refine RunD.en ?_
     refine (Bool.eq_false_or_eq_true (gtB c.a a.a)).elim (fun g2=>?_) (fun g2=>?_)
     ·
       refine Run.dr ?_
       refine RunD.cV [.int .i64 (icmp (c.a.num*(a.a.den:Int)) (a.a.num*(c.a.den:Int)))] kb (fun _ _ _ H=>qCmp c.a a.a (H.f 8) (H.f 0) (by omega)) ?_
       refine RunD.bi [] (cb true) (fun _ _ _ o1 o2 _ ho hx hy=>ex_icmp .gtr 3 (icmp (c.a.num*(a.a.den:Int)) (a.a.num*(c.a.den:Int))) 0 (kk:=.i64) rfl ho hx hy) ?_ (hV:=fun _ _=>congrArg Value.bool g2)
       refine RunD.en ?_
       refine (Bool.eq_false_or_eq_true (gtB d.a c.a)).elim (fun g3=>?_) (fun g3=>?_)
       ·
         refine Run.dr ?_
         refine RunD.cV [.int .i64 (icmp (d.a.num*(c.a.den:Int)) (c.a.num*(d.a.den:Int)))] kb (fun _ _ _ H=>qCmp d.a c.a (H.f 12) (H.f 8) (by omega)) ?_
         refine RunD.bi [] (cb true) (fun _ _ _ o1 o2 _ ho hx hy=>ex_icmp .gtr 3 (icmp (d.a.num*(c.a.den:Int)) (c.a.num*(d.a.den:Int))) 0 (kk:=.i64) rfl ho hx hy) ?_ (hV:=fun _ _=>congrArg Value.bool g3)
         refine RunD.en ?_
         have ht:(Q4.mk a b c d).top=3:=by simp [Q4.top,g1,g2,g3]
         have e:rootF (r+1) (Q4.mk a b c d) L=if geB (Ci.swp a b c d d).a d.a=true then (some (Q4.mk a b c d,L),0) else if L.length=4096 then (none,3) else if cifits (rci (Ci.swp a b c d d))=true then rootF r (Q4.mk a b c (Ci.swp a b c d d)) (L++[3]) else (none,4):=(rootF_s _ _ _ ht).trans (by rw [sw_3,at_3,at_3])
         have g0:=swp_ht a b c d d
         refine Run.cR spRing (fun _ _ _ H=>swp3 cp a b c d (H.br 2) (RingP.mk (H.f 0) (H.f 1) (H.f 2) (H.f 3)) (RingP.mk (H.f 4) (H.f 5) (H.f 6) (H.f 7)) (RingP.mk (H.f 8) (H.f 9) (H.f 10) (H.f 11)) (RingP.mk (H.f 12) (H.f 13) (H.f 14) (H.f 15)) (by omega) (by omega) (by omega) (by omega)) ?_
         refine (Bool.eq_false_or_eq_true (geB (Ci.swp a b c d d).a d.a)).elim (fun hs=>?_) (fun hs=>?_)
         ·
           rw [if_pos hs,h4] at e
           refine Run.dr ?_
           refine RunD.cV [.int .i64 (icmp ((Ci.swp a b c d d).a.num*(d.a.den:Int)) (d.a.num*((Ci.swp a b c d d).a.den:Int)))] kb (fun _ _ _ H=>qCmp (Ci.swp a b c d d).a d.a (H.f 16) (H.f 12) (by omega)) ?_
           refine RunD.bi [] (cb true) (fun _ _ _ o1 o2 _ ho hx hy=>ex_icmp .geq 3 (icmp ((Ci.swp a b c d d).a.num*(d.a.den:Int)) (d.a.num*((Ci.swp a b c d d).a.den:Int))) 0 (kk:=.i64) rfl ho hx hy) ?_ (hV:=fun _ _=>congrArg Value.bool hs)
           refine RunD.en ?_
           exact Run.pq (rp_L e h2 h3.1) (Run.rL 3 cap (.tup [.agg (ks 0 64),.o (.ls 3 n (cap+n)),.o (.c (.int .i64 0))]))
         ·
           rw [if_neg (by rw [hs];decide)] at e
           refine Run.dr ?_
           refine RunD.cV [.int .i64 (icmp ((Ci.swp a b c d d).a.num*(d.a.den:Int)) (d.a.num*((Ci.swp a b c d d).a.den:Int)))] kb (fun _ _ _ H=>qCmp (Ci.swp a b c d d).a d.a (H.f 16) (H.f 12) (by omega)) ?_
           refine RunD.bi [] (cb false) (fun _ _ _ o1 o2 _ ho hx hy=>ex_icmp .geq 3 (icmp ((Ci.swp a b c d d).a.num*(d.a.den:Int)) (d.a.num*((Ci.swp a b c d d).a.den:Int))) 0 (kk:=.i64) rfl ho hx hy) ?_ (hV:=fun _ _=>congrArg Value.bool hs)
           refine RunD.en ?_
           refine Run.ln n 31 ?_
           by_cases hn:n=4096
           · rw [if_pos (h2.symm.trans hn),h4] at e
             refine Run.ik .eql n 4096 true (dT (by omega)) ?_
             exact Run.pq (rp_n e) (Run.rV rfl)
           rw [if_neg (fun h=>hn (h2.trans h))] at e
           refine Run.ik .eql n 4096 false (dF (by omega)) ?_
           refine Run.sm 2 12 ?_
           refine (Bool.eq_false_or_eq_true (cifits (rci (Ci.swp a b c d d)))).elim (fun hf=>?_) (fun hf=>?_)
           ·
             rw [if_pos hf,h4] at e
             refine Run.cV ((ciC (Ci.swp a b c d d)).toList) (.tup [.agg (ks 0 16),.o (.c (.int .i64 0))]) (fun _ _ _ H=>dsToF (Ci.swp a b c d d) (RingP.mk (H.f 16) (H.f 17) (H.f 18) (H.f 19)) (by omega) hf) ?_
             refine Run.al 31 3 n cap 5 (intsC L) (intsC (L++[3])) [.int .i64 3] 1 (by omega) (by rw [intsC_size,← h2]) (intsC_app L 3) (fun cq=>?_)
             refine Run.te 3 ?_
             exact Run.as (fun k=>if 12≤k∧k<16 then k+4 else k) id (ih cq (n+1) (L++[3]) a b c (Ci.swp a b c d d) (by omega) (by simp;omega) (by omega) ha hb hc (cifits_ht hf) e.symm) (hc:=by kernel_rfl) (hk:=by kernel_rfl)
           ·
             rw [if_neg (by rw [hf];decide),h4] at e
             refine Run.cV ((rciC rzCi).toList) (.tup [.agg (ks 0 16),.o (.c (.int .i64 4))]) (fun _ _ _ H=>dsToN (Ci.swp a b c d d) (RingP.mk (H.f 16) (H.f 17) (H.f 18) (H.f 19)) (by omega) hf) ?_
             exact Run.pq (rp_n e) (Run.rV rfl)
       ·
         refine Run.dr ?_
         refine RunD.cV [.int .i64 (icmp (d.a.num*(c.a.den:Int)) (c.a.num*(d.a.den:Int)))] kb (fun _ _ _ H=>qCmp d.a c.a (H.f 12) (H.f 8) (by omega)) ?_
         refine RunD.bi [] (cb false) (fun _ _ _ o1 o2 _ ho hx hy=>ex_icmp .gtr 3 (icmp (d.a.num*(c.a.den:Int)) (c.a.num*(d.a.den:Int))) 0 (kk:=.i64) rfl ho hx hy) ?_ (hV:=fun _ _=>congrArg Value.bool g3)
         refine RunD.en ?_
         have ht:(Q4.mk a b c d).top=2:=by simp [Q4.top,g1,g2,g3]
         have e:rootF (r+1) (Q4.mk a b c d) L=if geB (Ci.swp a b c d c).a c.a=true then (some (Q4.mk a b c d,L),0) else if L.length=4096 then (none,3) else if cifits (rci (Ci.swp a b c d c))=true then rootF r (Q4.mk a b (Ci.swp a b c d c) d) (L++[2]) else (none,4):=(rootF_s _ _ _ ht).trans (by rw [sw_2,at_2,at_2])
         have g0:=swp_ht a b c d c
         refine Run.cR spRing (fun _ _ _ H=>swp2 cp a b c d (H.br 2) (RingP.mk (H.f 0) (H.f 1) (H.f 2) (H.f 3)) (RingP.mk (H.f 4) (H.f 5) (H.f 6) (H.f 7)) (RingP.mk (H.f 8) (H.f 9) (H.f 10) (H.f 11)) (RingP.mk (H.f 12) (H.f 13) (H.f 14) (H.f 15)) (by omega) (by omega) (by omega) (by omega)) ?_
         refine (Bool.eq_false_or_eq_true (geB (Ci.swp a b c d c).a c.a)).elim (fun hs=>?_) (fun hs=>?_)
         ·
           rw [if_pos hs,h4] at e
           refine Run.dr ?_
           refine RunD.cV [.int .i64 (icmp ((Ci.swp a b c d c).a.num*(c.a.den:Int)) (c.a.num*((Ci.swp a b c d c).a.den:Int)))] kb (fun _ _ _ H=>qCmp (Ci.swp a b c d c).a c.a (H.f 16) (H.f 8) (by omega)) ?_
           refine RunD.bi [] (cb true) (fun _ _ _ o1 o2 _ ho hx hy=>ex_icmp .geq 3 (icmp ((Ci.swp a b c d c).a.num*(c.a.den:Int)) (c.a.num*((Ci.swp a b c d c).a.den:Int))) 0 (kk:=.i64) rfl ho hx hy) ?_ (hV:=fun _ _=>congrArg Value.bool hs)
           refine RunD.en ?_
           exact Run.pq (rp_L e h2 h3.1) (Run.rL 3 cap (.tup [.agg (ks 0 64),.o (.ls 3 n (cap+n)),.o (.c (.int .i64 0))]))
         ·
           rw [if_neg (by rw [hs];decide)] at e
           refine Run.dr ?_
           refine RunD.cV [.int .i64 (icmp ((Ci.swp a b c d c).a.num*(c.a.den:Int)) (c.a.num*((Ci.swp a b c d c).a.den:Int)))] kb (fun _ _ _ H=>qCmp (Ci.swp a b c d c).a c.a (H.f 16) (H.f 8) (by omega)) ?_
           refine RunD.bi [] (cb false) (fun _ _ _ o1 o2 _ ho hx hy=>ex_icmp .geq 3 (icmp ((Ci.swp a b c d c).a.num*(c.a.den:Int)) (c.a.num*((Ci.swp a b c d c).a.den:Int))) 0 (kk:=.i64) rfl ho hx hy) ?_ (hV:=fun _ _=>congrArg Value.bool hs)
           refine RunD.en ?_
           refine Run.ln n 31 ?_
           by_cases hn:n=4096
           · rw [if_pos (h2.symm.trans hn),h4] at e
             refine Run.ik .eql n 4096 true (dT (by omega)) ?_
             exact Run.pq (rp_n e) (Run.rV rfl)
           rw [if_neg (fun h=>hn (h2.trans h))] at e
           refine Run.ik .eql n 4096 false (dF (by omega)) ?_
           refine Run.sm 2 8 ?_
           refine (Bool.eq_false_or_eq_true (cifits (rci (Ci.swp a b c d c)))).elim (fun hf=>?_) (fun hf=>?_)
           ·
             rw [if_pos hf,h4] at e
             refine Run.cV ((ciC (Ci.swp a b c d c)).toList) (.tup [.agg (ks 0 16),.o (.c (.int .i64 0))]) (fun _ _ _ H=>dsToF (Ci.swp a b c d c) (RingP.mk (H.f 16) (H.f 17) (H.f 18) (H.f 19)) (by omega) hf) ?_
             refine Run.al 31 3 n cap 5 (intsC L) (intsC (L++[2])) [.int .i64 2] 1 (by omega) (by rw [intsC_size,← h2]) (intsC_app L 2) (fun cq=>?_)
             refine Run.te 3 ?_
             exact Run.as (fun k=>if 8≤k∧k<12 then k+8 else k) id (ih cq (n+1) (L++[2]) a b (Ci.swp a b c d c) d (by omega) (by simp;omega) (by omega) ha hb (cifits_ht hf) hd e.symm) (hc:=by kernel_rfl) (hk:=by kernel_rfl)
           ·
             rw [if_neg (by rw [hf];decide),h4] at e
             refine Run.cV ((rciC rzCi).toList) (.tup [.agg (ks 0 16),.o (.c (.int .i64 4))]) (fun _ _ _ H=>dsToN (Ci.swp a b c d c) (RingP.mk (H.f 16) (H.f 17) (H.f 18) (H.f 19)) (by omega) hf) ?_
             exact Run.pq (rp_n e) (Run.rV rfl)
     ·
       refine Run.dr ?_
       refine RunD.cV [.int .i64 (icmp (c.a.num*(a.a.den:Int)) (a.a.num*(c.a.den:Int)))] kb (fun _ _ _ H=>qCmp c.a a.a (H.f 8) (H.f 0) (by omega)) ?_
       refine RunD.bi [] (cb false) (fun _ _ _ o1 o2 _ ho hx hy=>ex_icmp .gtr 3 (icmp (c.a.num*(a.a.den:Int)) (a.a.num*(c.a.den:Int))) 0 (kk:=.i64) rfl ho hx hy) ?_ (hV:=fun _ _=>congrArg Value.bool g2)
       refine RunD.en ?_
       refine (Bool.eq_false_or_eq_true (gtB d.a a.a)).elim (fun g3=>?_) (fun g3=>?_)
       ·
         refine Run.dr ?_
         refine RunD.cV [.int .i64 (icmp (d.a.num*(a.a.den:Int)) (a.a.num*(d.a.den:Int)))] kb (fun _ _ _ H=>qCmp d.a a.a (H.f 12) (H.f 0) (by omega)) ?_
         refine RunD.bi [] (cb true) (fun _ _ _ o1 o2 _ ho hx hy=>ex_icmp .gtr 3 (icmp (d.a.num*(a.a.den:Int)) (a.a.num*(d.a.den:Int))) 0 (kk:=.i64) rfl ho hx hy) ?_ (hV:=fun _ _=>congrArg Value.bool g3)
         refine RunD.en ?_
         have ht:(Q4.mk a b c d).top=3:=by simp [Q4.top,g1,g2,g3]
         have e:rootF (r+1) (Q4.mk a b c d) L=if geB (Ci.swp a b c d d).a d.a=true then (some (Q4.mk a b c d,L),0) else if L.length=4096 then (none,3) else if cifits (rci (Ci.swp a b c d d))=true then rootF r (Q4.mk a b c (Ci.swp a b c d d)) (L++[3]) else (none,4):=(rootF_s _ _ _ ht).trans (by rw [sw_3,at_3,at_3])
         have g0:=swp_ht a b c d d
         refine Run.cR spRing (fun _ _ _ H=>swp3 cp a b c d (H.br 2) (RingP.mk (H.f 0) (H.f 1) (H.f 2) (H.f 3)) (RingP.mk (H.f 4) (H.f 5) (H.f 6) (H.f 7)) (RingP.mk (H.f 8) (H.f 9) (H.f 10) (H.f 11)) (RingP.mk (H.f 12) (H.f 13) (H.f 14) (H.f 15)) (by omega) (by omega) (by omega) (by omega)) ?_
         refine (Bool.eq_false_or_eq_true (geB (Ci.swp a b c d d).a d.a)).elim (fun hs=>?_) (fun hs=>?_)
         ·
           rw [if_pos hs,h4] at e
           refine Run.dr ?_
           refine RunD.cV [.int .i64 (icmp ((Ci.swp a b c d d).a.num*(d.a.den:Int)) (d.a.num*((Ci.swp a b c d d).a.den:Int)))] kb (fun _ _ _ H=>qCmp (Ci.swp a b c d d).a d.a (H.f 16) (H.f 12) (by omega)) ?_
           refine RunD.bi [] (cb true) (fun _ _ _ o1 o2 _ ho hx hy=>ex_icmp .geq 3 (icmp ((Ci.swp a b c d d).a.num*(d.a.den:Int)) (d.a.num*((Ci.swp a b c d d).a.den:Int))) 0 (kk:=.i64) rfl ho hx hy) ?_ (hV:=fun _ _=>congrArg Value.bool hs)
           refine RunD.en ?_
           exact Run.pq (rp_L e h2 h3.1) (Run.rL 3 cap (.tup [.agg (ks 0 64),.o (.ls 3 n (cap+n)),.o (.c (.int .i64 0))]))
         ·
           rw [if_neg (by rw [hs];decide)] at e
           refine Run.dr ?_
           refine RunD.cV [.int .i64 (icmp ((Ci.swp a b c d d).a.num*(d.a.den:Int)) (d.a.num*((Ci.swp a b c d d).a.den:Int)))] kb (fun _ _ _ H=>qCmp (Ci.swp a b c d d).a d.a (H.f 16) (H.f 12) (by omega)) ?_
           refine RunD.bi [] (cb false) (fun _ _ _ o1 o2 _ ho hx hy=>ex_icmp .geq 3 (icmp ((Ci.swp a b c d d).a.num*(d.a.den:Int)) (d.a.num*((Ci.swp a b c d d).a.den:Int))) 0 (kk:=.i64) rfl ho hx hy) ?_ (hV:=fun _ _=>congrArg Value.bool hs)
           refine RunD.en ?_
           refine Run.ln n 31 ?_
           by_cases hn:n=4096
           · rw [if_pos (h2.symm.trans hn),h4] at e
             refine Run.ik .eql n 4096 true (dT (by omega)) ?_
             exact Run.pq (rp_n e) (Run.rV rfl)
           rw [if_neg (fun h=>hn (h2.trans h))] at e
           refine Run.ik .eql n 4096 false (dF (by omega)) ?_
           refine Run.sm 2 12 ?_
           refine (Bool.eq_false_or_eq_true (cifits (rci (Ci.swp a b c d d)))).elim (fun hf=>?_) (fun hf=>?_)
           ·
             rw [if_pos hf,h4] at e
             refine Run.cV ((ciC (Ci.swp a b c d d)).toList) (.tup [.agg (ks 0 16),.o (.c (.int .i64 0))]) (fun _ _ _ H=>dsToF (Ci.swp a b c d d) (RingP.mk (H.f 16) (H.f 17) (H.f 18) (H.f 19)) (by omega) hf) ?_
             refine Run.al 31 3 n cap 5 (intsC L) (intsC (L++[3])) [.int .i64 3] 1 (by omega) (by rw [intsC_size,← h2]) (intsC_app L 3) (fun cq=>?_)
             refine Run.te 3 ?_
             exact Run.as (fun k=>if 12≤k∧k<16 then k+4 else k) id (ih cq (n+1) (L++[3]) a b c (Ci.swp a b c d d) (by omega) (by simp;omega) (by omega) ha hb hc (cifits_ht hf) e.symm) (hc:=by kernel_rfl) (hk:=by kernel_rfl)
           ·
             rw [if_neg (by rw [hf];decide),h4] at e
             refine Run.cV ((rciC rzCi).toList) (.tup [.agg (ks 0 16),.o (.c (.int .i64 4))]) (fun _ _ _ H=>dsToN (Ci.swp a b c d d) (RingP.mk (H.f 16) (H.f 17) (H.f 18) (H.f 19)) (by omega) hf) ?_
             exact Run.pq (rp_n e) (Run.rV rfl)
       ·
         refine Run.dr ?_
         refine RunD.cV [.int .i64 (icmp (d.a.num*(a.a.den:Int)) (a.a.num*(d.a.den:Int)))] kb (fun _ _ _ H=>qCmp d.a a.a (H.f 12) (H.f 0) (by omega)) ?_
         refine RunD.bi [] (cb false) (fun _ _ _ o1 o2 _ ho hx hy=>ex_icmp .gtr 3 (icmp (d.a.num*(a.a.den:Int)) (a.a.num*(d.a.den:Int))) 0 (kk:=.i64) rfl ho hx hy) ?_ (hV:=fun _ _=>congrArg Value.bool g3)
         refine RunD.en ?_
         have ht:(Q4.mk a b c d).top=0:=by simp [Q4.top,g1,g2,g3]
         have e:rootF (r+1) (Q4.mk a b c d) L=if geB (Ci.swp a b c d a).a a.a=true then (some (Q4.mk a b c d,L),0) else if L.length=4096 then (none,3) else if cifits (rci (Ci.swp a b c d a))=true then rootF r (Q4.mk (Ci.swp a b c d a) b c d) (L++[0]) else (none,4):=(rootF_s _ _ _ ht).trans (by rw [sw_0,at_0,at_0])
         have g0:=swp_ht a b c d a
         refine Run.cR spRing (fun _ _ _ H=>swp0 cp a b c d (H.br 2) (RingP.mk (H.f 0) (H.f 1) (H.f 2) (H.f 3)) (RingP.mk (H.f 4) (H.f 5) (H.f 6) (H.f 7)) (RingP.mk (H.f 8) (H.f 9) (H.f 10) (H.f 11)) (RingP.mk (H.f 12) (H.f 13) (H.f 14) (H.f 15)) (by omega) (by omega) (by omega) (by omega)) ?_
         refine (Bool.eq_false_or_eq_true (geB (Ci.swp a b c d a).a a.a)).elim (fun hs=>?_) (fun hs=>?_)
         ·
           rw [if_pos hs,h4] at e
           refine Run.dr ?_
           refine RunD.cV [.int .i64 (icmp ((Ci.swp a b c d a).a.num*(a.a.den:Int)) (a.a.num*((Ci.swp a b c d a).a.den:Int)))] kb (fun _ _ _ H=>qCmp (Ci.swp a b c d a).a a.a (H.f 16) (H.f 0) (by omega)) ?_
           refine RunD.bi [] (cb true) (fun _ _ _ o1 o2 _ ho hx hy=>ex_icmp .geq 3 (icmp ((Ci.swp a b c d a).a.num*(a.a.den:Int)) (a.a.num*((Ci.swp a b c d a).a.den:Int))) 0 (kk:=.i64) rfl ho hx hy) ?_ (hV:=fun _ _=>congrArg Value.bool hs)
           refine RunD.en ?_
           exact Run.pq (rp_L e h2 h3.1) (Run.rL 3 cap (.tup [.agg (ks 0 64),.o (.ls 3 n (cap+n)),.o (.c (.int .i64 0))]))
         ·
           rw [if_neg (by rw [hs];decide)] at e
           refine Run.dr ?_
           refine RunD.cV [.int .i64 (icmp ((Ci.swp a b c d a).a.num*(a.a.den:Int)) (a.a.num*((Ci.swp a b c d a).a.den:Int)))] kb (fun _ _ _ H=>qCmp (Ci.swp a b c d a).a a.a (H.f 16) (H.f 0) (by omega)) ?_
           refine RunD.bi [] (cb false) (fun _ _ _ o1 o2 _ ho hx hy=>ex_icmp .geq 3 (icmp ((Ci.swp a b c d a).a.num*(a.a.den:Int)) (a.a.num*((Ci.swp a b c d a).a.den:Int))) 0 (kk:=.i64) rfl ho hx hy) ?_ (hV:=fun _ _=>congrArg Value.bool hs)
           refine RunD.en ?_
           refine Run.ln n 31 ?_
           by_cases hn:n=4096
           · rw [if_pos (h2.symm.trans hn),h4] at e
             refine Run.ik .eql n 4096 true (dT (by omega)) ?_
             exact Run.pq (rp_n e) (Run.rV rfl)
           rw [if_neg (fun h=>hn (h2.trans h))] at e
           refine Run.ik .eql n 4096 false (dF (by omega)) ?_
           refine Run.sm 2 0 ?_
           refine (Bool.eq_false_or_eq_true (cifits (rci (Ci.swp a b c d a)))).elim (fun hf=>?_) (fun hf=>?_)
           ·
             rw [if_pos hf,h4] at e
             refine Run.cV ((ciC (Ci.swp a b c d a)).toList) (.tup [.agg (ks 0 16),.o (.c (.int .i64 0))]) (fun _ _ _ H=>dsToF (Ci.swp a b c d a) (RingP.mk (H.f 16) (H.f 17) (H.f 18) (H.f 19)) (by omega) hf) ?_
             refine Run.al 31 3 n cap 5 (intsC L) (intsC (L++[0])) [.int .i64 0] 1 (by omega) (by rw [intsC_size,← h2]) (intsC_app L 0) (fun cq=>?_)
             refine Run.te 3 ?_
             exact Run.as (fun k=>if 0≤k∧k<4 then k+16 else k) id (ih cq (n+1) (L++[0]) (Ci.swp a b c d a) b c d (by omega) (by simp;omega) (by omega) (cifits_ht hf) hb hc hd e.symm) (hc:=by kernel_rfl) (hk:=by kernel_rfl)
           ·
             rw [if_neg (by rw [hf];decide),h4] at e
             refine Run.cV ((rciC rzCi).toList) (.tup [.agg (ks 0 16),.o (.c (.int .i64 4))]) (fun _ _ _ H=>dsToN (Ci.swp a b c d a) (RingP.mk (H.f 16) (H.f 17) (H.f 18) (H.f 19)) (by omega) hf) ?_
             exact Run.pq (rp_n e) (Run.rV rfl)
theorem rtNil{R0:Option (Q4×List Int)×Int}(cp:Nat)(d0 d1 d2 d3:Ci)(f0:ht d0.a+ht d0.b.re+ht d0.b.im+ht d0.c≤40000)(f1:ht d1.a+ht d1.b.re+ht d1.b.im+ht d1.c≤40000)(f2:ht d2.a+ht d2.b.re+ht d2.b.im+ht d2.c≤40000)(f3:ht d3.a+ht d3.b.re+ht d3.b.im+ht d3.c≤40000)(h4:rootF (4096+1) (Q4.mk d0 d1 d2 d3) []=R0):Run Tryz.prog Z0 W (Q4.mk d0 d1 d2 d3).C (ringF [d0,d1,d2,d3]) (bodyPost Tryz.prog Tryz.f16 (RootPost R0 W)) (stLp Tryz.f16 (4096+1) 64 16 [(1,.s (.o (.p 0 0))),(2,.s (.o (.p 1 0))),(5,.s (.o (.sl 2 0 4 (cp+4)))),(7,constSV (.slice none 0 0))] [⟨30,ks 0 64,true,none,false⟩,⟨30,Q4.z.map At.c,true,none,false⟩,⟨147,mkT::vs 0 16,true,none,false⟩]):=by
   refine Run.dr ?_
   refine RunD.cV [.int .i64 (icmp (d0.a.num*(d0.a.den:Int)) (d0.a.num*(d0.a.den:Int)))] kb (fun _ _ _ H=>qCmp d0.a d0.a (H.f 0) (H.f 0) (by omega)) ?_
   refine RunD.bi [] (cb false) (fun _ _ _ o1 o2 _ ho hx hy=>ex_icmp .gtr 3 (icmp (d0.a.num*(d0.a.den:Int)) (d0.a.num*(d0.a.den:Int))) 0 (kk:=.i64) rfl ho hx hy) ?_ (hV:=fun _ _=>congrArg Value.bool (gt_self d0.a))
   refine RunD.en ?_
   refine (Bool.eq_false_or_eq_true (gtB d1.a d0.a)).elim (fun g1=>?_) (fun g1=>?_)
   ·
     refine Run.dr ?_
     refine RunD.cV [.int .i64 (icmp (d1.a.num*(d0.a.den:Int)) (d0.a.num*(d1.a.den:Int)))] kb (fun _ _ _ H=>qCmp d1.a d0.a (H.f 4) (H.f 0) (by omega)) ?_
     refine RunD.bi [] (cb true) (fun _ _ _ o1 o2 _ ho hx hy=>ex_icmp .gtr 3 (icmp (d1.a.num*(d0.a.den:Int)) (d0.a.num*(d1.a.den:Int))) 0 (kk:=.i64) rfl ho hx hy) ?_ (hV:=fun _ _=>congrArg Value.bool g1)
     refine RunD.en ?_
     refine (Bool.eq_false_or_eq_true (gtB d2.a d1.a)).elim (fun g2=>?_) (fun g2=>?_)
     ·
       refine Run.dr ?_
       refine RunD.cV [.int .i64 (icmp (d2.a.num*(d1.a.den:Int)) (d1.a.num*(d2.a.den:Int)))] kb (fun _ _ _ H=>qCmp d2.a d1.a (H.f 8) (H.f 4) (by omega)) ?_
       refine RunD.bi [] (cb true) (fun _ _ _ o1 o2 _ ho hx hy=>ex_icmp .gtr 3 (icmp (d2.a.num*(d1.a.den:Int)) (d1.a.num*(d2.a.den:Int))) 0 (kk:=.i64) rfl ho hx hy) ?_ (hV:=fun _ _=>congrArg Value.bool g2)
       refine RunD.en ?_
       refine (Bool.eq_false_or_eq_true (gtB d3.a d2.a)).elim (fun g3=>?_) (fun g3=>?_)
       ·
         refine Run.dr ?_
         refine RunD.cV [.int .i64 (icmp (d3.a.num*(d2.a.den:Int)) (d2.a.num*(d3.a.den:Int)))] kb (fun _ _ _ H=>qCmp d3.a d2.a (H.f 12) (H.f 8) (by omega)) ?_
         refine RunD.bi [] (cb true) (fun _ _ _ o1 o2 _ ho hx hy=>ex_icmp .gtr 3 (icmp (d3.a.num*(d2.a.den:Int)) (d2.a.num*(d3.a.den:Int))) 0 (kk:=.i64) rfl ho hx hy) ?_ (hV:=fun _ _=>congrArg Value.bool g3)
         refine RunD.en ?_
         have ht:(Q4.mk d0 d1 d2 d3).top=3:=by simp [Q4.top,g1,g2,g3]
         have e:rootF (4096+1) (Q4.mk d0 d1 d2 d3) []=if geB (Ci.swp d0 d1 d2 d3 d3).a d3.a=true then (some (Q4.mk d0 d1 d2 d3,[]),0) else if [].length=4096 then (none,3) else if cifits (rci (Ci.swp d0 d1 d2 d3 d3))=true then rootF 4096 (Q4.mk d0 d1 d2 (Ci.swp d0 d1 d2 d3 d3)) ([]++[3]) else (none,4):=(rootF_s _ _ _ ht).trans (by rw [sw_3,at_3,at_3])
         have g0:=swp_ht d0 d1 d2 d3 d3
         refine Run.cR spRing (fun _ _ _ H=>swp3 cp d0 d1 d2 d3 (H.br 2) (RingP.mk (H.f 0) (H.f 1) (H.f 2) (H.f 3)) (RingP.mk (H.f 4) (H.f 5) (H.f 6) (H.f 7)) (RingP.mk (H.f 8) (H.f 9) (H.f 10) (H.f 11)) (RingP.mk (H.f 12) (H.f 13) (H.f 14) (H.f 15)) (by omega) (by omega) (by omega) (by omega)) ?_
         refine (Bool.eq_false_or_eq_true (geB (Ci.swp d0 d1 d2 d3 d3).a d3.a)).elim (fun hs=>?_) (fun hs=>?_)
         ·
           rw [if_pos hs,h4] at e
           refine Run.dr ?_
           refine RunD.cV [.int .i64 (icmp ((Ci.swp d0 d1 d2 d3 d3).a.num*(d3.a.den:Int)) (d3.a.num*((Ci.swp d0 d1 d2 d3 d3).a.den:Int)))] kb (fun _ _ _ H=>qCmp (Ci.swp d0 d1 d2 d3 d3).a d3.a (H.f 16) (H.f 12) (by omega)) ?_
           refine RunD.bi [] (cb true) (fun _ _ _ o1 o2 _ ho hx hy=>ex_icmp .geq 3 (icmp ((Ci.swp d0 d1 d2 d3 d3).a.num*(d3.a.den:Int)) (d3.a.num*((Ci.swp d0 d1 d2 d3 d3).a.den:Int))) 0 (kk:=.i64) rfl ho hx hy) ?_ (hV:=fun _ _=>congrArg Value.bool hs)
           refine RunD.en ?_
           exact Run.pq (rp_0 e) (Run.rV rfl)
         ·
           rw [if_neg (by rw [hs];decide)] at e
           refine Run.dr ?_
           refine RunD.cV [.int .i64 (icmp ((Ci.swp d0 d1 d2 d3 d3).a.num*(d3.a.den:Int)) (d3.a.num*((Ci.swp d0 d1 d2 d3 d3).a.den:Int)))] kb (fun _ _ _ H=>qCmp (Ci.swp d0 d1 d2 d3 d3).a d3.a (H.f 16) (H.f 12) (by omega)) ?_
           refine RunD.bi [] (cb false) (fun _ _ _ o1 o2 _ ho hx hy=>ex_icmp .geq 3 (icmp ((Ci.swp d0 d1 d2 d3 d3).a.num*(d3.a.den:Int)) (d3.a.num*((Ci.swp d0 d1 d2 d3 d3).a.den:Int))) 0 (kk:=.i64) rfl ho hx hy) ?_ (hV:=fun _ _=>congrArg Value.bool hs)
           refine RunD.en ?_
           rw [if_neg (by decide)] at e
           refine Run.lz 31 ?_
           refine Run.sm 2 12 ?_
           refine (Bool.eq_false_or_eq_true (cifits (rci (Ci.swp d0 d1 d2 d3 d3)))).elim (fun hf=>?_) (fun hf=>?_)
           ·
             rw [if_pos hf,h4] at e
             refine Run.cV ((ciC (Ci.swp d0 d1 d2 d3 d3)).toList) (.tup [.agg (ks 0 16),.o (.c (.int .i64 0))]) (fun _ _ _ H=>dsToF (Ci.swp d0 d1 d2 d3 d3) (RingP.mk (H.f 16) (H.f 17) (H.f 18) (H.f 19)) (by omega) hf) ?_
             refine Run.a0 3 31 4 (fun cq=>?_)
             refine Run.hln 0 5 ((cq+1)*1) (intsC [3]) ?_
             refine Run.te 3 ?_
             exact Run.as (fun k=>if 12≤k∧k<16 then k+4 else k) (fun b=>if b=3 then 5 else b) (rtLoop cp 4096 cq 1 [3] d0 d1 d2 (Ci.swp d0 d1 d2 d3 d3) (by omega) rfl (by omega) f0 f1 f2 (cifits_ht hf) e.symm) (hc:=by kernel_rfl) (hk:=by kernel_rfl)
           ·
             rw [if_neg (by rw [hf];decide),h4] at e
             refine Run.cV ((rciC rzCi).toList) (.tup [.agg (ks 0 16),.o (.c (.int .i64 4))]) (fun _ _ _ H=>dsToN (Ci.swp d0 d1 d2 d3 d3) (RingP.mk (H.f 16) (H.f 17) (H.f 18) (H.f 19)) (by omega) hf) ?_
             exact Run.pq (rp_n e) (Run.rV rfl)
       ·
         refine Run.dr ?_
         refine RunD.cV [.int .i64 (icmp (d3.a.num*(d2.a.den:Int)) (d2.a.num*(d3.a.den:Int)))] kb (fun _ _ _ H=>qCmp d3.a d2.a (H.f 12) (H.f 8) (by omega)) ?_
         refine RunD.bi [] (cb false) (fun _ _ _ o1 o2 _ ho hx hy=>ex_icmp .gtr 3 (icmp (d3.a.num*(d2.a.den:Int)) (d2.a.num*(d3.a.den:Int))) 0 (kk:=.i64) rfl ho hx hy) ?_ (hV:=fun _ _=>congrArg Value.bool g3)
         refine RunD.en ?_
         have ht:(Q4.mk d0 d1 d2 d3).top=2:=by simp [Q4.top,g1,g2,g3]
         have e:rootF (4096+1) (Q4.mk d0 d1 d2 d3) []=if geB (Ci.swp d0 d1 d2 d3 d2).a d2.a=true then (some (Q4.mk d0 d1 d2 d3,[]),0) else if [].length=4096 then (none,3) else if cifits (rci (Ci.swp d0 d1 d2 d3 d2))=true then rootF 4096 (Q4.mk d0 d1 (Ci.swp d0 d1 d2 d3 d2) d3) ([]++[2]) else (none,4):=(rootF_s _ _ _ ht).trans (by rw [sw_2,at_2,at_2])
         have g0:=swp_ht d0 d1 d2 d3 d2
         refine Run.cR spRing (fun _ _ _ H=>swp2 cp d0 d1 d2 d3 (H.br 2) (RingP.mk (H.f 0) (H.f 1) (H.f 2) (H.f 3)) (RingP.mk (H.f 4) (H.f 5) (H.f 6) (H.f 7)) (RingP.mk (H.f 8) (H.f 9) (H.f 10) (H.f 11)) (RingP.mk (H.f 12) (H.f 13) (H.f 14) (H.f 15)) (by omega) (by omega) (by omega) (by omega)) ?_
         refine (Bool.eq_false_or_eq_true (geB (Ci.swp d0 d1 d2 d3 d2).a d2.a)).elim (fun hs=>?_) (fun hs=>?_)
         ·
           rw [if_pos hs,h4] at e
           refine Run.dr ?_
           refine RunD.cV [.int .i64 (icmp ((Ci.swp d0 d1 d2 d3 d2).a.num*(d2.a.den:Int)) (d2.a.num*((Ci.swp d0 d1 d2 d3 d2).a.den:Int)))] kb (fun _ _ _ H=>qCmp (Ci.swp d0 d1 d2 d3 d2).a d2.a (H.f 16) (H.f 8) (by omega)) ?_
           refine RunD.bi [] (cb true) (fun _ _ _ o1 o2 _ ho hx hy=>ex_icmp .geq 3 (icmp ((Ci.swp d0 d1 d2 d3 d2).a.num*(d2.a.den:Int)) (d2.a.num*((Ci.swp d0 d1 d2 d3 d2).a.den:Int))) 0 (kk:=.i64) rfl ho hx hy) ?_ (hV:=fun _ _=>congrArg Value.bool hs)
           refine RunD.en ?_
           exact Run.pq (rp_0 e) (Run.rV rfl)
         ·
           rw [if_neg (by rw [hs];decide)] at e
           refine Run.dr ?_
           refine RunD.cV [.int .i64 (icmp ((Ci.swp d0 d1 d2 d3 d2).a.num*(d2.a.den:Int)) (d2.a.num*((Ci.swp d0 d1 d2 d3 d2).a.den:Int)))] kb (fun _ _ _ H=>qCmp (Ci.swp d0 d1 d2 d3 d2).a d2.a (H.f 16) (H.f 8) (by omega)) ?_
           refine RunD.bi [] (cb false) (fun _ _ _ o1 o2 _ ho hx hy=>ex_icmp .geq 3 (icmp ((Ci.swp d0 d1 d2 d3 d2).a.num*(d2.a.den:Int)) (d2.a.num*((Ci.swp d0 d1 d2 d3 d2).a.den:Int))) 0 (kk:=.i64) rfl ho hx hy) ?_ (hV:=fun _ _=>congrArg Value.bool hs)
           refine RunD.en ?_
           rw [if_neg (by decide)] at e
           refine Run.lz 31 ?_
           refine Run.sm 2 8 ?_
           refine (Bool.eq_false_or_eq_true (cifits (rci (Ci.swp d0 d1 d2 d3 d2)))).elim (fun hf=>?_) (fun hf=>?_)
           ·
             rw [if_pos hf,h4] at e
             refine Run.cV ((ciC (Ci.swp d0 d1 d2 d3 d2)).toList) (.tup [.agg (ks 0 16),.o (.c (.int .i64 0))]) (fun _ _ _ H=>dsToF (Ci.swp d0 d1 d2 d3 d2) (RingP.mk (H.f 16) (H.f 17) (H.f 18) (H.f 19)) (by omega) hf) ?_
             refine Run.a0 3 31 4 (fun cq=>?_)
             refine Run.hln 0 5 ((cq+1)*1) (intsC [2]) ?_
             refine Run.te 3 ?_
             exact Run.as (fun k=>if 8≤k∧k<12 then k+8 else k) (fun b=>if b=3 then 5 else b) (rtLoop cp 4096 cq 1 [2] d0 d1 (Ci.swp d0 d1 d2 d3 d2) d3 (by omega) rfl (by omega) f0 f1 (cifits_ht hf) f3 e.symm) (hc:=by kernel_rfl) (hk:=by kernel_rfl)
           ·
             rw [if_neg (by rw [hf];decide),h4] at e
             refine Run.cV ((rciC rzCi).toList) (.tup [.agg (ks 0 16),.o (.c (.int .i64 4))]) (fun _ _ _ H=>dsToN (Ci.swp d0 d1 d2 d3 d2) (RingP.mk (H.f 16) (H.f 17) (H.f 18) (H.f 19)) (by omega) hf) ?_
             exact Run.pq (rp_n e) (Run.rV rfl)
     ·
       refine Run.dr ?_
       refine RunD.cV [.int .i64 (icmp (d2.a.num*(d1.a.den:Int)) (d1.a.num*(d2.a.den:Int)))] kb (fun _ _ _ H=>qCmp d2.a d1.a (H.f 8) (H.f 4) (by omega)) ?_
       refine RunD.bi [] (cb false) (fun _ _ _ o1 o2 _ ho hx hy=>ex_icmp .gtr 3 (icmp (d2.a.num*(d1.a.den:Int)) (d1.a.num*(d2.a.den:Int))) 0 (kk:=.i64) rfl ho hx hy) ?_ (hV:=fun _ _=>congrArg Value.bool g2)
       refine RunD.en ?_
       refine (Bool.eq_false_or_eq_true (gtB d3.a d1.a)).elim (fun g3=>?_) (fun g3=>?_)
       ·
         refine Run.dr ?_
         refine RunD.cV [.int .i64 (icmp (d3.a.num*(d1.a.den:Int)) (d1.a.num*(d3.a.den:Int)))] kb (fun _ _ _ H=>qCmp d3.a d1.a (H.f 12) (H.f 4) (by omega)) ?_
         refine RunD.bi [] (cb true) (fun _ _ _ o1 o2 _ ho hx hy=>ex_icmp .gtr 3 (icmp (d3.a.num*(d1.a.den:Int)) (d1.a.num*(d3.a.den:Int))) 0 (kk:=.i64) rfl ho hx hy) ?_ (hV:=fun _ _=>congrArg Value.bool g3)
         refine RunD.en ?_
         have ht:(Q4.mk d0 d1 d2 d3).top=3:=by simp [Q4.top,g1,g2,g3]
         have e:rootF (4096+1) (Q4.mk d0 d1 d2 d3) []=if geB (Ci.swp d0 d1 d2 d3 d3).a d3.a=true then (some (Q4.mk d0 d1 d2 d3,[]),0) else if [].length=4096 then (none,3) else if cifits (rci (Ci.swp d0 d1 d2 d3 d3))=true then rootF 4096 (Q4.mk d0 d1 d2 (Ci.swp d0 d1 d2 d3 d3)) ([]++[3]) else (none,4):=(rootF_s _ _ _ ht).trans (by rw [sw_3,at_3,at_3])
         have g0:=swp_ht d0 d1 d2 d3 d3
         refine Run.cR spRing (fun _ _ _ H=>swp3 cp d0 d1 d2 d3 (H.br 2) (RingP.mk (H.f 0) (H.f 1) (H.f 2) (H.f 3)) (RingP.mk (H.f 4) (H.f 5) (H.f 6) (H.f 7)) (RingP.mk (H.f 8) (H.f 9) (H.f 10) (H.f 11)) (RingP.mk (H.f 12) (H.f 13) (H.f 14) (H.f 15)) (by omega) (by omega) (by omega) (by omega)) ?_
         refine (Bool.eq_false_or_eq_true (geB (Ci.swp d0 d1 d2 d3 d3).a d3.a)).elim (fun hs=>?_) (fun hs=>?_)
         ·
           rw [if_pos hs,h4] at e
           refine Run.dr ?_
           refine RunD.cV [.int .i64 (icmp ((Ci.swp d0 d1 d2 d3 d3).a.num*(d3.a.den:Int)) (d3.a.num*((Ci.swp d0 d1 d2 d3 d3).a.den:Int)))] kb (fun _ _ _ H=>qCmp (Ci.swp d0 d1 d2 d3 d3).a d3.a (H.f 16) (H.f 12) (by omega)) ?_
           refine RunD.bi [] (cb true) (fun _ _ _ o1 o2 _ ho hx hy=>ex_icmp .geq 3 (icmp ((Ci.swp d0 d1 d2 d3 d3).a.num*(d3.a.den:Int)) (d3.a.num*((Ci.swp d0 d1 d2 d3 d3).a.den:Int))) 0 (kk:=.i64) rfl ho hx hy) ?_ (hV:=fun _ _=>congrArg Value.bool hs)
           refine RunD.en ?_
           exact Run.pq (rp_0 e) (Run.rV rfl)
         ·
           rw [if_neg (by rw [hs];decide)] at e
           refine Run.dr ?_
           refine RunD.cV [.int .i64 (icmp ((Ci.swp d0 d1 d2 d3 d3).a.num*(d3.a.den:Int)) (d3.a.num*((Ci.swp d0 d1 d2 d3 d3).a.den:Int)))] kb (fun _ _ _ H=>qCmp (Ci.swp d0 d1 d2 d3 d3).a d3.a (H.f 16) (H.f 12) (by omega)) ?_
           refine RunD.bi [] (cb false) (fun _ _ _ o1 o2 _ ho hx hy=>ex_icmp .geq 3 (icmp ((Ci.swp d0 d1 d2 d3 d3).a.num*(d3.a.den:Int)) (d3.a.num*((Ci.swp d0 d1 d2 d3 d3).a.den:Int))) 0 (kk:=.i64) rfl ho hx hy) ?_ (hV:=fun _ _=>congrArg Value.bool hs)
           refine RunD.en ?_
           rw [if_neg (by decide)] at e
           refine Run.lz 31 ?_
           refine Run.sm 2 12 ?_
           refine (Bool.eq_false_or_eq_true (cifits (rci (Ci.swp d0 d1 d2 d3 d3)))).elim (fun hf=>?_) (fun hf=>?_)
           ·
             rw [if_pos hf,h4] at e
             refine Run.cV ((ciC (Ci.swp d0 d1 d2 d3 d3)).toList) (.tup [.agg (ks 0 16),.o (.c (.int .i64 0))]) (fun _ _ _ H=>dsToF (Ci.swp d0 d1 d2 d3 d3) (RingP.mk (H.f 16) (H.f 17) (H.f 18) (H.f 19)) (by omega) hf) ?_
             refine Run.a0 3 31 4 (fun cq=>?_)
             refine Run.hln 0 5 ((cq+1)*1) (intsC [3]) ?_
             refine Run.te 3 ?_
             exact Run.as (fun k=>if 12≤k∧k<16 then k+4 else k) (fun b=>if b=3 then 5 else b) (rtLoop cp 4096 cq 1 [3] d0 d1 d2 (Ci.swp d0 d1 d2 d3 d3) (by omega) rfl (by omega) f0 f1 f2 (cifits_ht hf) e.symm) (hc:=by kernel_rfl) (hk:=by kernel_rfl)
           ·
             rw [if_neg (by rw [hf];decide),h4] at e
             refine Run.cV ((rciC rzCi).toList) (.tup [.agg (ks 0 16),.o (.c (.int .i64 4))]) (fun _ _ _ H=>dsToN (Ci.swp d0 d1 d2 d3 d3) (RingP.mk (H.f 16) (H.f 17) (H.f 18) (H.f 19)) (by omega) hf) ?_
             exact Run.pq (rp_n e) (Run.rV rfl)
       ·
         refine Run.dr ?_
         refine RunD.cV [.int .i64 (icmp (d3.a.num*(d1.a.den:Int)) (d1.a.num*(d3.a.den:Int)))] kb (fun _ _ _ H=>qCmp d3.a d1.a (H.f 12) (H.f 4) (by omega)) ?_
         refine RunD.bi [] (cb false) (fun _ _ _ o1 o2 _ ho hx hy=>ex_icmp .gtr 3 (icmp (d3.a.num*(d1.a.den:Int)) (d1.a.num*(d3.a.den:Int))) 0 (kk:=.i64) rfl ho hx hy) ?_ (hV:=fun _ _=>congrArg Value.bool g3)
         refine RunD.en ?_
         have ht:(Q4.mk d0 d1 d2 d3).top=1:=by simp [Q4.top,g1,g2,g3]
         have e:rootF (4096+1) (Q4.mk d0 d1 d2 d3) []=if geB (Ci.swp d0 d1 d2 d3 d1).a d1.a=true then (some (Q4.mk d0 d1 d2 d3,[]),0) else if [].length=4096 then (none,3) else if cifits (rci (Ci.swp d0 d1 d2 d3 d1))=true then rootF 4096 (Q4.mk d0 (Ci.swp d0 d1 d2 d3 d1) d2 d3) ([]++[1]) else (none,4):=(rootF_s _ _ _ ht).trans (by rw [sw_1,at_1,at_1])
         have g0:=swp_ht d0 d1 d2 d3 d1
         refine Run.cR spRing (fun _ _ _ H=>swp1 cp d0 d1 d2 d3 (H.br 2) (RingP.mk (H.f 0) (H.f 1) (H.f 2) (H.f 3)) (RingP.mk (H.f 4) (H.f 5) (H.f 6) (H.f 7)) (RingP.mk (H.f 8) (H.f 9) (H.f 10) (H.f 11)) (RingP.mk (H.f 12) (H.f 13) (H.f 14) (H.f 15)) (by omega) (by omega) (by omega) (by omega)) ?_
         refine (Bool.eq_false_or_eq_true (geB (Ci.swp d0 d1 d2 d3 d1).a d1.a)).elim (fun hs=>?_) (fun hs=>?_)
         ·
           rw [if_pos hs,h4] at e
           refine Run.dr ?_
           refine RunD.cV [.int .i64 (icmp ((Ci.swp d0 d1 d2 d3 d1).a.num*(d1.a.den:Int)) (d1.a.num*((Ci.swp d0 d1 d2 d3 d1).a.den:Int)))] kb (fun _ _ _ H=>qCmp (Ci.swp d0 d1 d2 d3 d1).a d1.a (H.f 16) (H.f 4) (by omega)) ?_
           refine RunD.bi [] (cb true) (fun _ _ _ o1 o2 _ ho hx hy=>ex_icmp .geq 3 (icmp ((Ci.swp d0 d1 d2 d3 d1).a.num*(d1.a.den:Int)) (d1.a.num*((Ci.swp d0 d1 d2 d3 d1).a.den:Int))) 0 (kk:=.i64) rfl ho hx hy) ?_ (hV:=fun _ _=>congrArg Value.bool hs)
           refine RunD.en ?_
           exact Run.pq (rp_0 e) (Run.rV rfl)
         ·
           rw [if_neg (by rw [hs];decide)] at e
           refine Run.dr ?_
           refine RunD.cV [.int .i64 (icmp ((Ci.swp d0 d1 d2 d3 d1).a.num*(d1.a.den:Int)) (d1.a.num*((Ci.swp d0 d1 d2 d3 d1).a.den:Int)))] kb (fun _ _ _ H=>qCmp (Ci.swp d0 d1 d2 d3 d1).a d1.a (H.f 16) (H.f 4) (by omega)) ?_
           refine RunD.bi [] (cb false) (fun _ _ _ o1 o2 _ ho hx hy=>ex_icmp .geq 3 (icmp ((Ci.swp d0 d1 d2 d3 d1).a.num*(d1.a.den:Int)) (d1.a.num*((Ci.swp d0 d1 d2 d3 d1).a.den:Int))) 0 (kk:=.i64) rfl ho hx hy) ?_ (hV:=fun _ _=>congrArg Value.bool hs)
           refine RunD.en ?_
           rw [if_neg (by decide)] at e
           refine Run.lz 31 ?_
           refine Run.sm 2 4 ?_
           refine (Bool.eq_false_or_eq_true (cifits (rci (Ci.swp d0 d1 d2 d3 d1)))).elim (fun hf=>?_) (fun hf=>?_)
           ·
             rw [if_pos hf,h4] at e
             refine Run.cV ((ciC (Ci.swp d0 d1 d2 d3 d1)).toList) (.tup [.agg (ks 0 16),.o (.c (.int .i64 0))]) (fun _ _ _ H=>dsToF (Ci.swp d0 d1 d2 d3 d1) (RingP.mk (H.f 16) (H.f 17) (H.f 18) (H.f 19)) (by omega) hf) ?_
             refine Run.a0 3 31 4 (fun cq=>?_)
             refine Run.hln 0 5 ((cq+1)*1) (intsC [1]) ?_
             refine Run.te 3 ?_
             exact Run.as (fun k=>if 4≤k∧k<8 then k+12 else k) (fun b=>if b=3 then 5 else b) (rtLoop cp 4096 cq 1 [1] d0 (Ci.swp d0 d1 d2 d3 d1) d2 d3 (by omega) rfl (by omega) f0 (cifits_ht hf) f2 f3 e.symm) (hc:=by kernel_rfl) (hk:=by kernel_rfl)
           ·
             rw [if_neg (by rw [hf];decide),h4] at e
             refine Run.cV ((rciC rzCi).toList) (.tup [.agg (ks 0 16),.o (.c (.int .i64 4))]) (fun _ _ _ H=>dsToN (Ci.swp d0 d1 d2 d3 d1) (RingP.mk (H.f 16) (H.f 17) (H.f 18) (H.f 19)) (by omega) hf) ?_
             exact Run.pq (rp_n e) (Run.rV rfl)
   ·
     refine Run.dr ?_
     refine RunD.cV [.int .i64 (icmp (d1.a.num*(d0.a.den:Int)) (d0.a.num*(d1.a.den:Int)))] kb (fun _ _ _ H=>qCmp d1.a d0.a (H.f 4) (H.f 0) (by omega)) ?_
     refine RunD.bi [] (cb false) (fun _ _ _ o1 o2 _ ho hx hy=>ex_icmp .gtr 3 (icmp (d1.a.num*(d0.a.den:Int)) (d0.a.num*(d1.a.den:Int))) 0 (kk:=.i64) rfl ho hx hy) ?_ (hV:=fun _ _=>congrArg Value.bool g1)
     refine RunD.en ?_
     refine (Bool.eq_false_or_eq_true (gtB d2.a d0.a)).elim (fun g2=>?_) (fun g2=>?_)
     ·
       refine Run.dr ?_
       refine RunD.cV [.int .i64 (icmp (d2.a.num*(d0.a.den:Int)) (d0.a.num*(d2.a.den:Int)))] kb (fun _ _ _ H=>qCmp d2.a d0.a (H.f 8) (H.f 0) (by omega)) ?_
       refine RunD.bi [] (cb true) (fun _ _ _ o1 o2 _ ho hx hy=>ex_icmp .gtr 3 (icmp (d2.a.num*(d0.a.den:Int)) (d0.a.num*(d2.a.den:Int))) 0 (kk:=.i64) rfl ho hx hy) ?_ (hV:=fun _ _=>congrArg Value.bool g2)
       refine RunD.en ?_
       refine (Bool.eq_false_or_eq_true (gtB d3.a d2.a)).elim (fun g3=>?_) (fun g3=>?_)
       ·
         refine Run.dr ?_
         refine RunD.cV [.int .i64 (icmp (d3.a.num*(d2.a.den:Int)) (d2.a.num*(d3.a.den:Int)))] kb (fun _ _ _ H=>qCmp d3.a d2.a (H.f 12) (H.f 8) (by omega)) ?_
         refine RunD.bi [] (cb true) (fun _ _ _ o1 o2 _ ho hx hy=>ex_icmp .gtr 3 (icmp (d3.a.num*(d2.a.den:Int)) (d2.a.num*(d3.a.den:Int))) 0 (kk:=.i64) rfl ho hx hy) ?_ (hV:=fun _ _=>congrArg Value.bool g3)
         refine RunD.en ?_
         have ht:(Q4.mk d0 d1 d2 d3).top=3:=by simp [Q4.top,g1,g2,g3]
         have e:rootF (4096+1) (Q4.mk d0 d1 d2 d3) []=if geB (Ci.swp d0 d1 d2 d3 d3).a d3.a=true then (some (Q4.mk d0 d1 d2 d3,[]),0) else if [].length=4096 then (none,3) else if cifits (rci (Ci.swp d0 d1 d2 d3 d3))=true then rootF 4096 (Q4.mk d0 d1 d2 (Ci.swp d0 d1 d2 d3 d3)) ([]++[3]) else (none,4):=(rootF_s _ _ _ ht).trans (by rw [sw_3,at_3,at_3])
         have g0:=swp_ht d0 d1 d2 d3 d3
         refine Run.cR spRing (fun _ _ _ H=>swp3 cp d0 d1 d2 d3 (H.br 2) (RingP.mk (H.f 0) (H.f 1) (H.f 2) (H.f 3)) (RingP.mk (H.f 4) (H.f 5) (H.f 6) (H.f 7)) (RingP.mk (H.f 8) (H.f 9) (H.f 10) (H.f 11)) (RingP.mk (H.f 12) (H.f 13) (H.f 14) (H.f 15)) (by omega) (by omega) (by omega) (by omega)) ?_
         refine (Bool.eq_false_or_eq_true (geB (Ci.swp d0 d1 d2 d3 d3).a d3.a)).elim (fun hs=>?_) (fun hs=>?_)
         ·
           rw [if_pos hs,h4] at e
           refine Run.dr ?_
           refine RunD.cV [.int .i64 (icmp ((Ci.swp d0 d1 d2 d3 d3).a.num*(d3.a.den:Int)) (d3.a.num*((Ci.swp d0 d1 d2 d3 d3).a.den:Int)))] kb (fun _ _ _ H=>qCmp (Ci.swp d0 d1 d2 d3 d3).a d3.a (H.f 16) (H.f 12) (by omega)) ?_
           refine RunD.bi [] (cb true) (fun _ _ _ o1 o2 _ ho hx hy=>ex_icmp .geq 3 (icmp ((Ci.swp d0 d1 d2 d3 d3).a.num*(d3.a.den:Int)) (d3.a.num*((Ci.swp d0 d1 d2 d3 d3).a.den:Int))) 0 (kk:=.i64) rfl ho hx hy) ?_ (hV:=fun _ _=>congrArg Value.bool hs)
           refine RunD.en ?_
           exact Run.pq (rp_0 e) (Run.rV rfl)
         ·
           rw [if_neg (by rw [hs];decide)] at e
           refine Run.dr ?_
           refine RunD.cV [.int .i64 (icmp ((Ci.swp d0 d1 d2 d3 d3).a.num*(d3.a.den:Int)) (d3.a.num*((Ci.swp d0 d1 d2 d3 d3).a.den:Int)))] kb (fun _ _ _ H=>qCmp (Ci.swp d0 d1 d2 d3 d3).a d3.a (H.f 16) (H.f 12) (by omega)) ?_
           refine RunD.bi [] (cb false) (fun _ _ _ o1 o2 _ ho hx hy=>ex_icmp .geq 3 (icmp ((Ci.swp d0 d1 d2 d3 d3).a.num*(d3.a.den:Int)) (d3.a.num*((Ci.swp d0 d1 d2 d3 d3).a.den:Int))) 0 (kk:=.i64) rfl ho hx hy) ?_ (hV:=fun _ _=>congrArg Value.bool hs)
           refine RunD.en ?_
           rw [if_neg (by decide)] at e
           refine Run.lz 31 ?_
           refine Run.sm 2 12 ?_
           refine (Bool.eq_false_or_eq_true (cifits (rci (Ci.swp d0 d1 d2 d3 d3)))).elim (fun hf=>?_) (fun hf=>?_)
           ·
             rw [if_pos hf,h4] at e
             refine Run.cV ((ciC (Ci.swp d0 d1 d2 d3 d3)).toList) (.tup [.agg (ks 0 16),.o (.c (.int .i64 0))]) (fun _ _ _ H=>dsToF (Ci.swp d0 d1 d2 d3 d3) (RingP.mk (H.f 16) (H.f 17) (H.f 18) (H.f 19)) (by omega) hf) ?_
             refine Run.a0 3 31 4 (fun cq=>?_)
             refine Run.hln 0 5 ((cq+1)*1) (intsC [3]) ?_
             refine Run.te 3 ?_
             exact Run.as (fun k=>if 12≤k∧k<16 then k+4 else k) (fun b=>if b=3 then 5 else b) (rtLoop cp 4096 cq 1 [3] d0 d1 d2 (Ci.swp d0 d1 d2 d3 d3) (by omega) rfl (by omega) f0 f1 f2 (cifits_ht hf) e.symm) (hc:=by kernel_rfl) (hk:=by kernel_rfl)
           ·
             rw [if_neg (by rw [hf];decide),h4] at e
             refine Run.cV ((rciC rzCi).toList) (.tup [.agg (ks 0 16),.o (.c (.int .i64 4))]) (fun _ _ _ H=>dsToN (Ci.swp d0 d1 d2 d3 d3) (RingP.mk (H.f 16) (H.f 17) (H.f 18) (H.f 19)) (by omega) hf) ?_
             exact Run.pq (rp_n e) (Run.rV rfl)
       ·
         refine Run.dr ?_
         refine RunD.cV [.int .i64 (icmp (d3.a.num*(d2.a.den:Int)) (d2.a.num*(d3.a.den:Int)))] kb (fun _ _ _ H=>qCmp d3.a d2.a (H.f 12) (H.f 8) (by omega)) ?_
         refine RunD.bi [] (cb false) (fun _ _ _ o1 o2 _ ho hx hy=>ex_icmp .gtr 3 (icmp (d3.a.num*(d2.a.den:Int)) (d2.a.num*(d3.a.den:Int))) 0 (kk:=.i64) rfl ho hx hy) ?_ (hV:=fun _ _=>congrArg Value.bool g3)
         refine RunD.en ?_
         have ht:(Q4.mk d0 d1 d2 d3).top=2:=by simp [Q4.top,g1,g2,g3]
         have e:rootF (4096+1) (Q4.mk d0 d1 d2 d3) []=if geB (Ci.swp d0 d1 d2 d3 d2).a d2.a=true then (some (Q4.mk d0 d1 d2 d3,[]),0) else if [].length=4096 then (none,3) else if cifits (rci (Ci.swp d0 d1 d2 d3 d2))=true then rootF 4096 (Q4.mk d0 d1 (Ci.swp d0 d1 d2 d3 d2) d3) ([]++[2]) else (none,4):=(rootF_s _ _ _ ht).trans (by rw [sw_2,at_2,at_2])
         have g0:=swp_ht d0 d1 d2 d3 d2
         refine Run.cR spRing (fun _ _ _ H=>swp2 cp d0 d1 d2 d3 (H.br 2) (RingP.mk (H.f 0) (H.f 1) (H.f 2) (H.f 3)) (RingP.mk (H.f 4) (H.f 5) (H.f 6) (H.f 7)) (RingP.mk (H.f 8) (H.f 9) (H.f 10) (H.f 11)) (RingP.mk (H.f 12) (H.f 13) (H.f 14) (H.f 15)) (by omega) (by omega) (by omega) (by omega)) ?_
         refine (Bool.eq_false_or_eq_true (geB (Ci.swp d0 d1 d2 d3 d2).a d2.a)).elim (fun hs=>?_) (fun hs=>?_)
         ·
           rw [if_pos hs,h4] at e
           refine Run.dr ?_
           refine RunD.cV [.int .i64 (icmp ((Ci.swp d0 d1 d2 d3 d2).a.num*(d2.a.den:Int)) (d2.a.num*((Ci.swp d0 d1 d2 d3 d2).a.den:Int)))] kb (fun _ _ _ H=>qCmp (Ci.swp d0 d1 d2 d3 d2).a d2.a (H.f 16) (H.f 8) (by omega)) ?_
           refine RunD.bi [] (cb true) (fun _ _ _ o1 o2 _ ho hx hy=>ex_icmp .geq 3 (icmp ((Ci.swp d0 d1 d2 d3 d2).a.num*(d2.a.den:Int)) (d2.a.num*((Ci.swp d0 d1 d2 d3 d2).a.den:Int))) 0 (kk:=.i64) rfl ho hx hy) ?_ (hV:=fun _ _=>congrArg Value.bool hs)
           refine RunD.en ?_
           exact Run.pq (rp_0 e) (Run.rV rfl)
         ·
           rw [if_neg (by rw [hs];decide)] at e
           refine Run.dr ?_
           refine RunD.cV [.int .i64 (icmp ((Ci.swp d0 d1 d2 d3 d2).a.num*(d2.a.den:Int)) (d2.a.num*((Ci.swp d0 d1 d2 d3 d2).a.den:Int)))] kb (fun _ _ _ H=>qCmp (Ci.swp d0 d1 d2 d3 d2).a d2.a (H.f 16) (H.f 8) (by omega)) ?_
           refine RunD.bi [] (cb false) (fun _ _ _ o1 o2 _ ho hx hy=>ex_icmp .geq 3 (icmp ((Ci.swp d0 d1 d2 d3 d2).a.num*(d2.a.den:Int)) (d2.a.num*((Ci.swp d0 d1 d2 d3 d2).a.den:Int))) 0 (kk:=.i64) rfl ho hx hy) ?_ (hV:=fun _ _=>congrArg Value.bool hs)
           refine RunD.en ?_
           rw [if_neg (by decide)] at e
           refine Run.lz 31 ?_
           refine Run.sm 2 8 ?_
           refine (Bool.eq_false_or_eq_true (cifits (rci (Ci.swp d0 d1 d2 d3 d2)))).elim (fun hf=>?_) (fun hf=>?_)
           ·
             rw [if_pos hf,h4] at e
             refine Run.cV ((ciC (Ci.swp d0 d1 d2 d3 d2)).toList) (.tup [.agg (ks 0 16),.o (.c (.int .i64 0))]) (fun _ _ _ H=>dsToF (Ci.swp d0 d1 d2 d3 d2) (RingP.mk (H.f 16) (H.f 17) (H.f 18) (H.f 19)) (by omega) hf) ?_
             refine Run.a0 3 31 4 (fun cq=>?_)
             refine Run.hln 0 5 ((cq+1)*1) (intsC [2]) ?_
             refine Run.te 3 ?_
             exact Run.as (fun k=>if 8≤k∧k<12 then k+8 else k) (fun b=>if b=3 then 5 else b) (rtLoop cp 4096 cq 1 [2] d0 d1 (Ci.swp d0 d1 d2 d3 d2) d3 (by omega) rfl (by omega) f0 f1 (cifits_ht hf) f3 e.symm) (hc:=by kernel_rfl) (hk:=by kernel_rfl)
           ·
             rw [if_neg (by rw [hf];decide),h4] at e
             refine Run.cV ((rciC rzCi).toList) (.tup [.agg (ks 0 16),.o (.c (.int .i64 4))]) (fun _ _ _ H=>dsToN (Ci.swp d0 d1 d2 d3 d2) (RingP.mk (H.f 16) (H.f 17) (H.f 18) (H.f 19)) (by omega) hf) ?_
             exact Run.pq (rp_n e) (Run.rV rfl)
     ·
       refine Run.dr ?_
       refine RunD.cV [.int .i64 (icmp (d2.a.num*(d0.a.den:Int)) (d0.a.num*(d2.a.den:Int)))] kb (fun _ _ _ H=>qCmp d2.a d0.a (H.f 8) (H.f 0) (by omega)) ?_
       refine RunD.bi [] (cb false) (fun _ _ _ o1 o2 _ ho hx hy=>ex_icmp .gtr 3 (icmp (d2.a.num*(d0.a.den:Int)) (d0.a.num*(d2.a.den:Int))) 0 (kk:=.i64) rfl ho hx hy) ?_ (hV:=fun _ _=>congrArg Value.bool g2)
       refine RunD.en ?_
       refine (Bool.eq_false_or_eq_true (gtB d3.a d0.a)).elim (fun g3=>?_) (fun g3=>?_)
       ·
         refine Run.dr ?_
         refine RunD.cV [.int .i64 (icmp (d3.a.num*(d0.a.den:Int)) (d0.a.num*(d3.a.den:Int)))] kb (fun _ _ _ H=>qCmp d3.a d0.a (H.f 12) (H.f 0) (by omega)) ?_
         refine RunD.bi [] (cb true) (fun _ _ _ o1 o2 _ ho hx hy=>ex_icmp .gtr 3 (icmp (d3.a.num*(d0.a.den:Int)) (d0.a.num*(d3.a.den:Int))) 0 (kk:=.i64) rfl ho hx hy) ?_ (hV:=fun _ _=>congrArg Value.bool g3)
         refine RunD.en ?_
         have ht:(Q4.mk d0 d1 d2 d3).top=3:=by simp [Q4.top,g1,g2,g3]
         have e:rootF (4096+1) (Q4.mk d0 d1 d2 d3) []=if geB (Ci.swp d0 d1 d2 d3 d3).a d3.a=true then (some (Q4.mk d0 d1 d2 d3,[]),0) else if [].length=4096 then (none,3) else if cifits (rci (Ci.swp d0 d1 d2 d3 d3))=true then rootF 4096 (Q4.mk d0 d1 d2 (Ci.swp d0 d1 d2 d3 d3)) ([]++[3]) else (none,4):=(rootF_s _ _ _ ht).trans (by rw [sw_3,at_3,at_3])
         have g0:=swp_ht d0 d1 d2 d3 d3
         refine Run.cR spRing (fun _ _ _ H=>swp3 cp d0 d1 d2 d3 (H.br 2) (RingP.mk (H.f 0) (H.f 1) (H.f 2) (H.f 3)) (RingP.mk (H.f 4) (H.f 5) (H.f 6) (H.f 7)) (RingP.mk (H.f 8) (H.f 9) (H.f 10) (H.f 11)) (RingP.mk (H.f 12) (H.f 13) (H.f 14) (H.f 15)) (by omega) (by omega) (by omega) (by omega)) ?_
         refine (Bool.eq_false_or_eq_true (geB (Ci.swp d0 d1 d2 d3 d3).a d3.a)).elim (fun hs=>?_) (fun hs=>?_)
         ·
           rw [if_pos hs,h4] at e
           refine Run.dr ?_
           refine RunD.cV [.int .i64 (icmp ((Ci.swp d0 d1 d2 d3 d3).a.num*(d3.a.den:Int)) (d3.a.num*((Ci.swp d0 d1 d2 d3 d3).a.den:Int)))] kb (fun _ _ _ H=>qCmp (Ci.swp d0 d1 d2 d3 d3).a d3.a (H.f 16) (H.f 12) (by omega)) ?_
           refine RunD.bi [] (cb true) (fun _ _ _ o1 o2 _ ho hx hy=>ex_icmp .geq 3 (icmp ((Ci.swp d0 d1 d2 d3 d3).a.num*(d3.a.den:Int)) (d3.a.num*((Ci.swp d0 d1 d2 d3 d3).a.den:Int))) 0 (kk:=.i64) rfl ho hx hy) ?_ (hV:=fun _ _=>congrArg Value.bool hs)
           refine RunD.en ?_
           exact Run.pq (rp_0 e) (Run.rV rfl)
         ·
           rw [if_neg (by rw [hs];decide)] at e
           refine Run.dr ?_
           refine RunD.cV [.int .i64 (icmp ((Ci.swp d0 d1 d2 d3 d3).a.num*(d3.a.den:Int)) (d3.a.num*((Ci.swp d0 d1 d2 d3 d3).a.den:Int)))] kb (fun _ _ _ H=>qCmp (Ci.swp d0 d1 d2 d3 d3).a d3.a (H.f 16) (H.f 12) (by omega)) ?_
           refine RunD.bi [] (cb false) (fun _ _ _ o1 o2 _ ho hx hy=>ex_icmp .geq 3 (icmp ((Ci.swp d0 d1 d2 d3 d3).a.num*(d3.a.den:Int)) (d3.a.num*((Ci.swp d0 d1 d2 d3 d3).a.den:Int))) 0 (kk:=.i64) rfl ho hx hy) ?_ (hV:=fun _ _=>congrArg Value.bool hs)
           refine RunD.en ?_
           rw [if_neg (by decide)] at e
           refine Run.lz 31 ?_
           refine Run.sm 2 12 ?_
           refine (Bool.eq_false_or_eq_true (cifits (rci (Ci.swp d0 d1 d2 d3 d3)))).elim (fun hf=>?_) (fun hf=>?_)
           ·
             rw [if_pos hf,h4] at e
             refine Run.cV ((ciC (Ci.swp d0 d1 d2 d3 d3)).toList) (.tup [.agg (ks 0 16),.o (.c (.int .i64 0))]) (fun _ _ _ H=>dsToF (Ci.swp d0 d1 d2 d3 d3) (RingP.mk (H.f 16) (H.f 17) (H.f 18) (H.f 19)) (by omega) hf) ?_
             refine Run.a0 3 31 4 (fun cq=>?_)
             refine Run.hln 0 5 ((cq+1)*1) (intsC [3]) ?_
             refine Run.te 3 ?_
             exact Run.as (fun k=>if 12≤k∧k<16 then k+4 else k) (fun b=>if b=3 then 5 else b) (rtLoop cp 4096 cq 1 [3] d0 d1 d2 (Ci.swp d0 d1 d2 d3 d3) (by omega) rfl (by omega) f0 f1 f2 (cifits_ht hf) e.symm) (hc:=by kernel_rfl) (hk:=by kernel_rfl)
           ·
             rw [if_neg (by rw [hf];decide),h4] at e
             refine Run.cV ((rciC rzCi).toList) (.tup [.agg (ks 0 16),.o (.c (.int .i64 4))]) (fun _ _ _ H=>dsToN (Ci.swp d0 d1 d2 d3 d3) (RingP.mk (H.f 16) (H.f 17) (H.f 18) (H.f 19)) (by omega) hf) ?_
             exact Run.pq (rp_n e) (Run.rV rfl)
       ·
         refine Run.dr ?_
         refine RunD.cV [.int .i64 (icmp (d3.a.num*(d0.a.den:Int)) (d0.a.num*(d3.a.den:Int)))] kb (fun _ _ _ H=>qCmp d3.a d0.a (H.f 12) (H.f 0) (by omega)) ?_
         refine RunD.bi [] (cb false) (fun _ _ _ o1 o2 _ ho hx hy=>ex_icmp .gtr 3 (icmp (d3.a.num*(d0.a.den:Int)) (d0.a.num*(d3.a.den:Int))) 0 (kk:=.i64) rfl ho hx hy) ?_ (hV:=fun _ _=>congrArg Value.bool g3)
         refine RunD.en ?_
         have ht:(Q4.mk d0 d1 d2 d3).top=0:=by simp [Q4.top,g1,g2,g3]
         have e:rootF (4096+1) (Q4.mk d0 d1 d2 d3) []=if geB (Ci.swp d0 d1 d2 d3 d0).a d0.a=true then (some (Q4.mk d0 d1 d2 d3,[]),0) else if [].length=4096 then (none,3) else if cifits (rci (Ci.swp d0 d1 d2 d3 d0))=true then rootF 4096 (Q4.mk (Ci.swp d0 d1 d2 d3 d0) d1 d2 d3) ([]++[0]) else (none,4):=(rootF_s _ _ _ ht).trans (by rw [sw_0,at_0,at_0])
         have g0:=swp_ht d0 d1 d2 d3 d0
         refine Run.cR spRing (fun _ _ _ H=>swp0 cp d0 d1 d2 d3 (H.br 2) (RingP.mk (H.f 0) (H.f 1) (H.f 2) (H.f 3)) (RingP.mk (H.f 4) (H.f 5) (H.f 6) (H.f 7)) (RingP.mk (H.f 8) (H.f 9) (H.f 10) (H.f 11)) (RingP.mk (H.f 12) (H.f 13) (H.f 14) (H.f 15)) (by omega) (by omega) (by omega) (by omega)) ?_
         refine (Bool.eq_false_or_eq_true (geB (Ci.swp d0 d1 d2 d3 d0).a d0.a)).elim (fun hs=>?_) (fun hs=>?_)
         ·
           rw [if_pos hs,h4] at e
           refine Run.dr ?_
           refine RunD.cV [.int .i64 (icmp ((Ci.swp d0 d1 d2 d3 d0).a.num*(d0.a.den:Int)) (d0.a.num*((Ci.swp d0 d1 d2 d3 d0).a.den:Int)))] kb (fun _ _ _ H=>qCmp (Ci.swp d0 d1 d2 d3 d0).a d0.a (H.f 16) (H.f 0) (by omega)) ?_
           refine RunD.bi [] (cb true) (fun _ _ _ o1 o2 _ ho hx hy=>ex_icmp .geq 3 (icmp ((Ci.swp d0 d1 d2 d3 d0).a.num*(d0.a.den:Int)) (d0.a.num*((Ci.swp d0 d1 d2 d3 d0).a.den:Int))) 0 (kk:=.i64) rfl ho hx hy) ?_ (hV:=fun _ _=>congrArg Value.bool hs)
           refine RunD.en ?_
           exact Run.pq (rp_0 e) (Run.rV rfl)
         ·
           rw [if_neg (by rw [hs];decide)] at e
           refine Run.dr ?_
           refine RunD.cV [.int .i64 (icmp ((Ci.swp d0 d1 d2 d3 d0).a.num*(d0.a.den:Int)) (d0.a.num*((Ci.swp d0 d1 d2 d3 d0).a.den:Int)))] kb (fun _ _ _ H=>qCmp (Ci.swp d0 d1 d2 d3 d0).a d0.a (H.f 16) (H.f 0) (by omega)) ?_
           refine RunD.bi [] (cb false) (fun _ _ _ o1 o2 _ ho hx hy=>ex_icmp .geq 3 (icmp ((Ci.swp d0 d1 d2 d3 d0).a.num*(d0.a.den:Int)) (d0.a.num*((Ci.swp d0 d1 d2 d3 d0).a.den:Int))) 0 (kk:=.i64) rfl ho hx hy) ?_ (hV:=fun _ _=>congrArg Value.bool hs)
           refine RunD.en ?_
           rw [if_neg (by decide)] at e
           refine Run.lz 31 ?_
           refine Run.sm 2 0 ?_
           refine (Bool.eq_false_or_eq_true (cifits (rci (Ci.swp d0 d1 d2 d3 d0)))).elim (fun hf=>?_) (fun hf=>?_)
           ·
             rw [if_pos hf,h4] at e
             refine Run.cV ((ciC (Ci.swp d0 d1 d2 d3 d0)).toList) (.tup [.agg (ks 0 16),.o (.c (.int .i64 0))]) (fun _ _ _ H=>dsToF (Ci.swp d0 d1 d2 d3 d0) (RingP.mk (H.f 16) (H.f 17) (H.f 18) (H.f 19)) (by omega) hf) ?_
             refine Run.a0 3 31 4 (fun cq=>?_)
             refine Run.hln 0 5 ((cq+1)*1) (intsC [0]) ?_
             refine Run.te 3 ?_
             exact Run.as (fun k=>if 0≤k∧k<4 then k+16 else k) (fun b=>if b=3 then 5 else b) (rtLoop cp 4096 cq 1 [0] (Ci.swp d0 d1 d2 d3 d0) d1 d2 d3 (by omega) rfl (by omega) (cifits_ht hf) f1 f2 f3 e.symm) (hc:=by kernel_rfl) (hk:=by kernel_rfl)
           ·
             rw [if_neg (by rw [hf];decide),h4] at e
             refine Run.cV ((rciC rzCi).toList) (.tup [.agg (ks 0 16),.o (.c (.int .i64 4))]) (fun _ _ _ H=>dsToN (Ci.swp d0 d1 d2 d3 d0) (RingP.mk (H.f 16) (H.f 17) (H.f 18) (H.f 19)) (by omega) hf) ?_
             exact Run.pq (rp_n e) (Run.rV rfl)
theorem rtL(d0 d1 d2 d3:Ci)(p0:dsOk (rci d0)=true)(p1:dsOk (rci d1)=true)(p2:dsOk (rci d2)=true)(p3:dsOk (rci d3)=true)(p4:Ci.all4 d0 d1 d2 d3=true)(p5:decide ((((d0.plus d1).plus d2).plus d3).a.num.sign≤0)=false):Calls Tryz.prog 16 #[.agg ⟨(ciC d0).toList++(ciC d1).toList++(ciC d2).toList++(ciC d3).toList⟩] W (RootPost (rootF (4096+1) (Q4.mk d0 d1 d2 d3) []) W):=by
 have f0:=cifits_ht (dsOk_c p0).1
 have f1:=cifits_ht (dsOk_c p1).1
 have f2:=cifits_ht (dsOk_c p2).1
 have f3:=cifits_ht (dsOk_c p3).1
 have h1:=plus_ht d0 d1
 have h2:=plus_ht (d0.plus d1) d2
 have h3:=plus_ht ((d0.plus d1).plus d2) d3
 generalize hR:rootF (4096+1) (Q4.mk d0 d1 d2 d3) []=R0
 refine Run.goP (S:=Z0) (Pack.nil.k (.agg ⟨(ciC d0).toList++(ciC d1).toList++(ciC d2).toList++(ciC d3).toList⟩) ((ciC d0).toList++(ciC d1).toList++(ciC d2).toList++(ciC d3).toList) (.s (.agg (ks 0 64)))) Tryz.func16 rfl ?_
 refine Run.cB (n:=4) (T:=147) (φs:=ringF [d0,d1,d2,d3]) (fun _ _ _ H=>frY d0 d1 d2 d3 p0 p1 p2 p3 p4) (fun cp=>?_)
 refine Run.dr ?_
 refine RunD.cR spRing (fun _ _ _ H=>dsPlus d0 d1 (RingP.mk (H.f 0) (H.f 1) (H.f 2) (H.f 3)) (RingP.mk (H.f 4) (H.f 5) (H.f 6) (H.f 7)) (by omega)) ?_
 refine RunD.cR spRing (fun _ _ _ H=>dsPlus (d0.plus d1) d2 (RingP.mk (H.f 16) (H.f 17) (H.f 18) (H.f 19)) (RingP.mk (H.f 8) (H.f 9) (H.f 10) (H.f 11)) (by omega)) ?_
 refine RunD.cR spRing (fun _ _ _ H=>dsPlus ((d0.plus d1).plus d2) d3 (RingP.mk (H.f 20) (H.f 21) (H.f 22) (H.f 23)) (RingP.mk (H.f 12) (H.f 13) (H.f 14) (H.f 15)) (by omega)) ?_
 refine RunD.cV [.int .i64 (((((d0.plus d1).plus d2).plus d3).a).num.sign)] kb (fun _ _ _ H=>qSign ((((d0.plus d1).plus d2).plus d3).a) (H.f 24)) ?_
 refine RunD.bi [] (cb false) (fun _ _ _ o1 o2 _ ho hx hy=>ex_icmp .leq 3 (((((d0.plus d1).plus d2).plus d3).a).num.sign) 0 (kk:=.i64) rfl ho hx hy) ?_ (hV:=fun _ _=>congrArg Value.bool p5)
 refine RunD.en ?_
 refine Run.ee (4096+1) ?_
 exact Run.as (fun k=>k) (fun k=>k) (rtNil cp d0 d1 d2 d3 f0 f1 f2 f3 hR) (hc:=by kernel_rfl) (hk:=by kernel_rfl)
end Go.Proofs.YtcdbmjnipaochaaGreat
namespace Go.Proofs.YtcdbmjnipaochaaGreat
open Go.RowKit Rgn
section
variable {w:World}
theorem eqin_dk(d:Nat)(r q:RCi):(Op.equalIn (d+5) 29 (rciV r) (rciV q)).run Tryz.prog w=.ok (decide (r=q)) w:=by
 have hf:=fields_of Tryz.underlying29
 have e:decide (r=q)=((decide (r.a=q.a)&&(decide (r.b=q.b)&&(decide (r.c=q.c)&&true)))):=by
  cases r;cases q;simp only [RCi.mk.injEq,Bool.and_true,decide_eq_decide,Bool.decide_and]
 rw [e]
 rw [run_equalIn_struct _ _ _ _ _ (by rw [hf];exact Tryz.underlying29) (by kernel_rfl),hf]
 refine eqf_step (a:=rfV r.a) (b:=rfV q.a) (by decide) (by go_simp) (by go_simp) (eqin_frac _ _ _) (eqf_step (a:=rgV r.b) (b:=rgV q.b) (by decide) (by go_simp) (by go_simp) (eqin_gauss _ _ _) (eqf_step (a:=rfV r.c) (b:=rfV q.c) (by decide) (by go_simp) (by go_simp) (eqin_frac _ _ _) (eqf_nil)))
end
theorem ex_eql_dk{ρ:Operand→Value}{o:Oper}{w:World}{k:TypeId}(a b:Operand)(ho:o.op=.binOp .eql 29 a b k){r q:RCi}(ha:ρ a=rciV r)(hb:ρ b=rciV q){c:Bool}(hc:decide (r=q)=c):(execOp ρ o).run Tryz.prog w=.ok (.value (.bool (c))) w:=by
 subst hc
 unfold execOp
 simp only [ho,ha,hb,rciV,Sem.run_bind]
 rw [run_eqGuard_agg (P:=Tryz.prog) w .eql 29 a b (rciC r) (rciC q) (by kernel_rfl)]
 simp only [Result.andThen_ok,Sem.run_bind,run_eql_struct,eqin_dk 9995 r q]
 rfl
theorem ex_neq_dk{ρ:Operand→Value}{o:Oper}{w:World}{k:TypeId}(a b:Operand)(ho:o.op=.binOp .neq 29 a b k){r q:RCi}(ha:ρ a=rciV r)(hb:ρ b=rciV q){c:Bool}(hc:decide (r=q)=c):(execOp ρ o).run Tryz.prog w=.ok (.value (.bool (!c))) w:=by
 subst hc
 unfold execOp
 simp only [ho,ha,hb,rciV,Sem.run_bind]
 rw [run_eqGuard_agg (P:=Tryz.prog) w .neq 29 a b (rciC r) (rciC q) (by kernel_rfl)]
 simp only [Result.andThen_ok,Sem.run_bind,run_neq_struct,eqin_dk 9995 r q]
 rfl
end Go.Proofs.YtcdbmjnipaochaaGreat
namespace Go.Proofs.YtcdbmjnipaochaaGreat
open Go.RowKit Rgn Eng
def Ci.in4(n re im co:Int):Ci:=⟨(n:Rat),Cx.ofInt re im,(co:Rat)⟩
def Ci.dk(c:Ci):Int:=if (!decide (c.b.norm-c.a*c.c=(1:Rat)))=true then 2 else 0
section
variable {a b:Ci}
end
end Go.Proofs.YtcdbmjnipaochaaGreat
namespace Go.Proofs.YtcdbmjnipaochaaGreat
open Go.RowKit Rgn Eng
variable {S:Nat→Prop} {W:World}
theorem prY(a b:Ci)(p0:dsOk (rci a)=true)(p1:dsOk (rci b)=true):Calls Tryz.prog 84 #[ciV a,ciV b] W (RetV (.tuple #[rfV (fcut (a.dot b)),.int .i64 (ferr (a.dot b))]) W):=by
 have f0:=cifits_ht (dsOk_c p0).1
 have f1:=cifits_ht (dsOk_c p1).1
 have h1:=dot_ht a b
 refine Run.goP (S:=Z0) ((Pack.nil.k (ciV a) (ciC a).toList (.s (.agg (ks 0 16)))).k (ciV b) (ciC b).toList (.s (.agg (ks 0 16)))) Tryz.func84 rfl ?_
 refine Run.cB (n:=2) (T:=147) (φs:=ringF [a,b]) (fun _ _ _ H=>pl2Y 29 a b (H.b 3) p0 p1) (fun cp1=>?_)
 refine Run.dr ?_
 refine RunD.cR spRat (fun _ _ _ H=>dsBy a b (RingP.mk (H.f 0) (H.f 1) (H.f 2) (H.f 3)) (RingP.mk (H.f 4) (H.f 5) (H.f 6) (H.f 7)) (by omega)) ?_
 refine RunD.cV ((rfC (fcut (a.dot b))).toList++[.int .i64 (ferr (a.dot b))]) (.tup [.agg (ks 0 4),.o (.k 4)]) (fun _ _ _ H=>eFrac (a.dot b) (RatP.n (H.f 8)) (by omega)) ?_
 refine RunD.en ?_
 exact Run.rV rfl
theorem l20num(n:Int):Calls Tryz.prog 19 #[.int .i64 n] W (RetV (.int .i64 n) W):=by
 refine Run.goP (S:=Z0) (Pack.nil.k (.int .i64 n) [.int .i64 n] kb) Tryz.func19 rfl ?_
 exact Run.rV rfl
theorem l20in(n re im co:Int)(p0:-9223372036854775808≤n∧n≤9223372036854775807)(p1:-9223372036854775808≤re∧re≤9223372036854775807)(p2:-9223372036854775808≤im∧im≤9223372036854775807)(p3:-9223372036854775808≤co∧co≤9223372036854775807):Calls Tryz.prog 70 #[.int .i64 n,.int .i64 re,.int .i64 im,.int .i64 co] W (RetV (ciV (Ci.in4 n re im co)) W):=by
 refine Run.goP (S:=Z0) ((((Pack.nil.k (.int .i64 n) [.int .i64 n] kb).k (.int .i64 re) [.int .i64 re] kb).k (.int .i64 im) [.int .i64 im] kb).k (.int .i64 co) [.int .i64 co] kb) Tryz.func70 rfl ?_
 refine Run.cV (fC (n:Rat)).toList (.s (.agg (ks 0 4))) (fun _ _ _ H=>fInt n (by omega) (by omega)) ?_
 refine Run.cV (gC (Cx.ofInt re im)).toList (.s (.agg (ks 0 8))) (fun _ _ _ H=>cInt re im (by omega) (by omega) (by omega) (by omega)) ?_
 refine Run.cV (fC (co:Rat)).toList (.s (.agg (ks 0 4))) (fun _ _ _ H=>fInt co (by omega) (by omega)) ?_
 exact Run.rV (rfl)
end Go.Proofs.YtcdbmjnipaochaaGreat
namespace Go.Proofs.YtcdbmjnipaochaaGreat
open Go.RowKit Rgn Eng
def lg6(r:RW):Bool:=decide (60<(r.s.size:Int))&&decide ((r.s.size:Int)≤1024)
def lgD(r:RF):Bool:=lg6 r.a||lg6 r.b
def lgE(r:RG):Bool:=lgD r.re||lgD r.im
def lgK(c:RCi):Bool:=lgD c.a||lgE c.b||lgD c.c
theorem in4_fits{n re im co:Int}(h1:ht (n:Rat)≤100)(h2:ht (re:Rat)≤100)(h3:ht (im:Rat)≤100)(h4:ht (co:Rat)≤100):cifits (rci (Ci.in4 n re im co))=true:=by
 show (fits (rf (n:Rat))&&gfits (rg (Cx.ofInt re im))&&fits (rf (co:Rat)))=true
 rw [fits_ht (by omega),fits_ht (by omega),gfits_ht (z:=Cx.ofInt re im) ⟨by show ht (re:Rat)≤_;omega,by show ht (im:Rat)≤_;omega⟩];rfl
theorem okO:dsOk (rci (Ci.in4 (-1) 0 0 1))=true:=dsOk_yes (in4_fits (by decide) (by decide) (by decide) (by decide)) (by decide +kernel)
theorem okA:dsOk (rci (Ci.in4 2 1 0 0))=true:=dsOk_yes (in4_fits (by decide) (by decide) (by decide) (by decide)) (by decide +kernel)
theorem okB:dsOk (rci (Ci.in4 2 (-1) 0 0))=true:=dsOk_yes (in4_fits (by decide) (by decide) (by decide) (by decide)) (by decide +kernel)
theorem okC:dsOk (rci (Ci.in4 3 0 2 1))=true:=dsOk_yes (in4_fits (by decide) (by decide) (by decide) (by decide)) (by decide +kernel)
theorem ok_e{c:Ci}(h:cifits (rci c)=true):cierr c=0:=by unfold cierr;rw [if_pos h]
theorem ok_r{c:Ci}(h:cifits (rci c)=true):cicut c=rci c:=by unfold cicut;rw [if_pos h]
variable {W:World}
theorem wkPr(a b:Ci)(p0:a=Ci.in4 2 1 0 0)(p1:b=Ci.in4 2 (-1) 0 0):Calls Tryz.prog 84 #[ciV a,ciV b] W (RetV (.tuple #[fV (1:Rat),.int .i64 0]) W):=by
 subst p0;subst p1
 have e:(Ci.in4 2 1 0 0).dot (Ci.in4 2 (-1) 0 0)=1:=by decide +kernel
 have f:fits (rf (1:Rat))=true:=fits_ht (by decide)
 refine reV ?_ (prY _ _ okA okB)
 rw [e];unfold fcut ferr;rw [if_pos f,if_pos f]
theorem wkFo(a b c:Ci)(p0:a=Ci.in4 (-1) 0 0 1)(p1:b=Ci.in4 2 1 0 0)(p2:c=Ci.in4 2 (-1) 0 0):Calls Tryz.prog 24 #[ciV a,ciV b,ciV c] W (RetV (.tuple #[ciV (Ci.in4 3 0 (-2) 1),ciV (Ci.in4 3 0 2 1),.int .i64 0]) W):=by
 subst p0;subst p1;subst p2
 have e1:Ci.f4p (Ci.in4 (-1) 0 0 1) (Ci.in4 2 1 0 0) (Ci.in4 2 (-1) 0 0)=Ci.in4 3 0 (-2) 1:=by decide +kernel
 have e2:Ci.f4q (Ci.in4 (-1) 0 0 1) (Ci.in4 2 1 0 0) (Ci.in4 2 (-1) 0 0)=Ci.in4 3 0 2 1:=by decide +kernel
 have f1:cifits (rci (Ci.in4 3 0 (-2) 1))=true:=in4_fits (by decide) (by decide) (by decide) (by decide)
 have f2:cifits (rci (Ci.in4 3 0 2 1))=true:=in4_fits (by decide) (by decide) (by decide) (by decide)
 have g:¬ Ci.f4b (Ci.in4 (-1) 0 0 1) (Ci.in4 2 1 0 0) (Ci.in4 2 (-1) 0 0)=true:=by unfold Ci.f4b;rw [e1,e2,ok_e f1,ok_e f2];decide
 refine reV ?_ (fo4 _ _ _ okO okA okB (by decide +kernel))
 unfold Ci.f4P Ci.f4Q Ci.f4E;rw [if_neg g,if_neg g,if_neg g,e1,e2,ok_r f1,ok_r f2]
theorem wkSw(d0 d1 d2 d3:Ci)(p0:d0=Ci.in4 (-1) 0 0 1)(p1:d1=Ci.in4 2 1 0 0)(p2:d2=Ci.in4 2 (-1) 0 0)(p3:d3=Ci.in4 3 0 2 1):Calls Tryz.prog 14 #[.agg ⟨(ciC d0).toList++(ciC d1).toList++(ciC d2).toList++(ciC d3).toList⟩,.int .i64 0] W (RetV (.tuple #[.agg ⟨(ciC (Ci.in4 15 0 4 1)).toList++(ciC d1).toList++(ciC d2).toList++(ciC d3).toList⟩,.int .i64 0]) W):=by
 subst p0;subst p1;subst p2;subst p3
 have e:Ci.swp (Ci.in4 (-1) 0 0 1) (Ci.in4 2 1 0 0) (Ci.in4 2 (-1) 0 0) (Ci.in4 3 0 2 1) (Ci.in4 (-1) 0 0 1)=Ci.in4 15 0 4 1:=by decide +kernel
 have f:cifits (rci (Ci.in4 15 0 4 1))=true:=in4_fits (by decide) (by decide) (by decide) (by decide)
 refine reV ?_ (sw0Y _ _ _ _ okO okA okB okC (by decide +kernel) (by rw [e,ok_e f];rfl))
 rw [e,ok_r f]
end Go.Proofs.YtcdbmjnipaochaaGreat
namespace Go.Proofs.YtcdbmjnipaochaaGreat
open Go.RowKit Rgn Eng
variable {S:Nat→Prop} {W:World}
theorem l20longF(r:RF):Calls Tryz.prog 83 #[rfV r] W (RetV (.bool (lgD r)) W):=by
 refine Run.goP (S:=Z0) (Pack.nil.k (rfV r) (rfC r).toList (.s (.agg (ks 0 4)))) Tryz.func83 rfl ?_
 refine Run.sl r.a.s 9 Tryz.underlying9 ?_
 rcases Bool.eq_false_or_eq_true (decide (60<((r.a.s.size:Nat):Int))) with c0|c0
 · refine Run.ik .gtr ((r.a.s.size:Nat):Int) 60 true (congrArg some c0) ?_
   refine Run.sl r.a.s 9 Tryz.underlying9 ?_
   rcases Bool.eq_false_or_eq_true (decide (((r.a.s.size:Nat):Int)≤1024)) with c1|c1
   · refine Run.ik .leq ((r.a.s.size:Nat):Int) 1024 true (congrArg some c1) ?_
     exact Run.rV (show Value.bool true=.bool (lgD r) by unfold lgD lg6;rw [c0,c1];rfl)
   · refine Run.ik .leq ((r.a.s.size:Nat):Int) 1024 false (congrArg some c1) ?_
     refine Run.sl r.b.s 9 Tryz.underlying9 ?_
     rcases Bool.eq_false_or_eq_true (decide (60<((r.b.s.size:Nat):Int))) with c2|c2
     · refine Run.ik .gtr ((r.b.s.size:Nat):Int) 60 true (congrArg some c2) ?_
       refine Run.sl r.b.s 9 Tryz.underlying9 ?_
       rcases Bool.eq_false_or_eq_true (decide (((r.b.s.size:Nat):Int)≤1024)) with c3|c3
       · refine Run.ik .leq ((r.b.s.size:Nat):Int) 1024 true (congrArg some c3) ?_
         exact Run.rV (show Value.bool true=.bool (lgD r) by unfold lgD lg6;rw [c0,c1,c2,c3];rfl)
       · refine Run.ik .leq ((r.b.s.size:Nat):Int) 1024 false (congrArg some c3) ?_
         exact Run.rV (show Value.bool false=.bool (lgD r) by unfold lgD lg6;rw [c0,c1,c2,c3];rfl)
     · refine Run.ik .gtr ((r.b.s.size:Nat):Int) 60 false (congrArg some c2) ?_
       exact Run.rV (show Value.bool false=.bool (lgD r) by unfold lgD lg6;rw [c0,c1,c2];rfl)
 · refine Run.ik .gtr ((r.a.s.size:Nat):Int) 60 false (congrArg some c0) ?_
   refine Run.sl r.b.s 9 Tryz.underlying9 ?_
   rcases Bool.eq_false_or_eq_true (decide (60<((r.b.s.size:Nat):Int))) with c4|c4
   · refine Run.ik .gtr ((r.b.s.size:Nat):Int) 60 true (congrArg some c4) ?_
     refine Run.sl r.b.s 9 Tryz.underlying9 ?_
     rcases Bool.eq_false_or_eq_true (decide (((r.b.s.size:Nat):Int)≤1024)) with c5|c5
     · refine Run.ik .leq ((r.b.s.size:Nat):Int) 1024 true (congrArg some c5) ?_
       exact Run.rV (show Value.bool true=.bool (lgD r) by unfold lgD lg6;rw [c0,c4,c5];rfl)
     · refine Run.ik .leq ((r.b.s.size:Nat):Int) 1024 false (congrArg some c5) ?_
       exact Run.rV (show Value.bool false=.bool (lgD r) by unfold lgD lg6;rw [c0,c4,c5];rfl)
   · refine Run.ik .gtr ((r.b.s.size:Nat):Int) 60 false (congrArg some c4) ?_
     exact Run.rV (show Value.bool false=.bool (lgD r) by unfold lgD lg6;rw [c0,c4];rfl)
theorem l20long1{b0:Nat}(T0:TypeId)(a:RG)(B0:W.heap[b0]? = some (.cells (⟨(rgC a).toList⟩) T0 (0,0))):Calls Tryz.prog 68 #[.slice (some ⟨b0,0,none⟩) 1 1] W (RetV (.bool (lgE a)) W):=by
 refine Run.goP (S:=Z0) (Pack.nil.b B0 (some 1) 8) Tryz.func68 rfl ?_
 refine Run.cV [.bool (lgD a.re)] kb (fun _ _ _ H=>l20longF a.re) ?_
 refine (Bool.eq_false_or_eq_true (lgD a.re)).elim (fun c1=>?_) (fun c1=>?_)
 · refine Run.kn c1 ?_
   exact Run.rV (V' := .bool true) ((congrArg Value.bool (by simp [lgE,c1])))
 · refine Run.kn c1 ?_
   refine Run.cV [.bool (lgD a.im)] kb (fun _ _ _ H=>l20longF a.im) ?_
   refine (Bool.eq_false_or_eq_true (lgD a.im)).elim (fun c2=>?_) (fun c2=>?_)
   · refine Run.kn c2 ?_
     exact Run.rV (V' := .bool true) ((congrArg Value.bool (by simp [lgE,c1,c2])))
   · refine Run.kn c2 ?_
     exact Run.rV (V' := .bool false) ((congrArg Value.bool (by simp [lgE,c1,c2])))
theorem l20far3{b0:Nat}(T0:TypeId)(a b c:RCi)(B0:W.heap[b0]? = some (.cells (⟨(rciC a).toList++((rciC b).toList++((rciC c).toList))⟩) T0 (0,0))):Calls Tryz.prog 12 #[.slice (some ⟨b0,0,none⟩) 3 3] W (RetV (.bool (lgK a||lgK b||lgK c)) W):=by
 refine Run.goP (S:=Z0) (Pack.nil.b B0 (some 3) 48) Tryz.func12 rfl ?_
 refine Run.cV [.bool (lgD a.a)] kb (fun _ _ _ H=>l20longF a.a) ?_
 refine (Bool.eq_false_or_eq_true (lgD a.a)).elim (fun c1=>?_) (fun c1=>?_)
 · refine Run.kn c1 ?_
   exact Run.rV (V' := .bool true) ((congrArg Value.bool (by simp [lgK,c1])))
 · refine Run.kn c1 ?_
   refine Run.cV [.bool (lgE a.b)] kb (fun _ _ _ H=>l20long1 27 a.b (H.b 1)) ?_
   refine (Bool.eq_false_or_eq_true (lgE a.b)).elim (fun c2=>?_) (fun c2=>?_)
   · refine Run.kn c2 ?_
     exact Run.rV (V' := .bool true) ((congrArg Value.bool (by simp [lgK,c1,c2])))
   · refine Run.kn c2 ?_
     refine Run.cV [.bool (lgD a.c)] kb (fun _ _ _ H=>l20longF a.c) ?_
     refine (Bool.eq_false_or_eq_true (lgD a.c)).elim (fun c3=>?_) (fun c3=>?_)
     · refine Run.kn c3 ?_
       exact Run.rV (V' := .bool true) ((congrArg Value.bool (by simp [lgK,c1,c2,c3])))
     · refine Run.kn c3 ?_
       refine Run.cV [.bool (lgD b.a)] kb (fun _ _ _ H=>l20longF b.a) ?_
       refine (Bool.eq_false_or_eq_true (lgD b.a)).elim (fun c4=>?_) (fun c4=>?_)
       · refine Run.kn c4 ?_
         exact Run.rV (V' := .bool true) ((congrArg Value.bool (by simp [lgK,c1,c2,c3,c4])))
       · refine Run.kn c4 ?_
         refine Run.cV [.bool (lgE b.b)] kb (fun _ _ _ H=>l20long1 27 b.b (H.b 2)) ?_
         refine (Bool.eq_false_or_eq_true (lgE b.b)).elim (fun c5=>?_) (fun c5=>?_)
         · refine Run.kn c5 ?_
           exact Run.rV (V' := .bool true) ((congrArg Value.bool (by simp [lgK,c1,c2,c3,c4,c5])))
         · refine Run.kn c5 ?_
           refine Run.cV [.bool (lgD b.c)] kb (fun _ _ _ H=>l20longF b.c) ?_
           refine (Bool.eq_false_or_eq_true (lgD b.c)).elim (fun c6=>?_) (fun c6=>?_)
           · refine Run.kn c6 ?_
             exact Run.rV (V' := .bool true) ((congrArg Value.bool (by simp [lgK,c1,c2,c3,c4,c5,c6])))
           · refine Run.kn c6 ?_
             refine Run.cV [.bool (lgD c.a)] kb (fun _ _ _ H=>l20longF c.a) ?_
             refine (Bool.eq_false_or_eq_true (lgD c.a)).elim (fun c7=>?_) (fun c7=>?_)
             · refine Run.kn c7 ?_
               exact Run.rV (V' := .bool true) ((congrArg Value.bool (by simp [lgK,c1,c2,c3,c4,c5,c6,c7])))
             · refine Run.kn c7 ?_
               refine Run.cV [.bool (lgE c.b)] kb (fun _ _ _ H=>l20long1 27 c.b (H.b 3)) ?_
               refine (Bool.eq_false_or_eq_true (lgE c.b)).elim (fun c8=>?_) (fun c8=>?_)
               · refine Run.kn c8 ?_
                 exact Run.rV (V' := .bool true) ((congrArg Value.bool (by simp [lgK,c1,c2,c3,c4,c5,c6,c7,c8])))
               · refine Run.kn c8 ?_
                 refine Run.cV [.bool (lgD c.c)] kb (fun _ _ _ H=>l20longF c.c) ?_
                 refine (Bool.eq_false_or_eq_true (lgD c.c)).elim (fun c9=>?_) (fun c9=>?_)
                 · refine Run.kn c9 ?_
                   exact Run.rV (V' := .bool true) ((congrArg Value.bool (by simp [lgK,c1,c2,c3,c4,c5,c6,c7,c8,c9])))
                 · refine Run.kn c9 ?_
                   exact Run.rV (V' := .bool false) ((congrArg Value.bool (by simp [lgK,c1,c2,c3,c4,c5,c6,c7,c8,c9])))
theorem l20works  : Calls Tryz.prog 13 #[] W (RetV (.bool true) W):=by
 refine Run.goP (S:=Z0) Pack.nil Tryz.func13 rfl ?_
 refine Run.cV (ciC (Ci.in4 (-1) 0 0 1)).toList (.s (.agg (ks 0 16))) (fun _ _ _ H=>l20in (-1) 0 0 1 (by first|omega|rfl) (by first|omega|rfl) (by first|omega|rfl) (by first|omega|rfl)) ?_
 refine Run.cV (ciC (Ci.in4 2 1 0 0)).toList (.s (.agg (ks 0 16))) (fun _ _ _ H=>l20in 2 1 0 0 (by first|omega|rfl) (by first|omega|rfl) (by first|omega|rfl) (by first|omega|rfl)) ?_
 refine Run.cV (ciC (Ci.in4 2 (-1) 0 0)).toList (.s (.agg (ks 0 16))) (fun _ _ _ H=>l20in 2 (-1) 0 0 (by first|omega|rfl) (by first|omega|rfl) (by first|omega|rfl) (by first|omega|rfl)) ?_
 refine Run.cV (ciC (Ci.in4 3 0 2 1)).toList (.s (.agg (ks 0 16))) (fun _ _ _ H=>l20in 3 0 2 1 (by first|omega|rfl) (by first|omega|rfl) (by first|omega|rfl) (by first|omega|rfl)) ?_
 refine Run.cV (fC (1:Rat)).toList (.tup [.agg (ks 0 4),.o (.c (.int .i64 0))]) (fun _ _ _ H=>wkPr (Ci.in4 2 1 0 0) (Ci.in4 2 (-1) 0 0) (by first|omega|rfl) (by first|omega|rfl)) ?_
 refine Run.cV ((ciC (Ci.in4 3 0 (-2) 1)).toList++(ciC (Ci.in4 3 0 2 1)).toList) (.tup [.agg (ks 0 16),.agg (ks 16 16),.o (.c (.int .i64 0))]) (fun _ _ _ H=>wkFo (Ci.in4 (-1) 0 0 1) (Ci.in4 2 1 0 0) (Ci.in4 2 (-1) 0 0) (by first|omega|rfl) (by first|omega|rfl) (by first|omega|rfl)) ?_
 refine Run.cV ((ciC (Ci.in4 15 0 4 1)).toList++(ciC (Ci.in4 2 1 0 0)).toList++(ciC (Ci.in4 2 (-1) 0 0)).toList++(ciC (Ci.in4 3 0 2 1)).toList) (.tup [.agg (ks 0 64),.o (.c (.int .i64 0))]) (fun _ _ _ H=>wkSw (Ci.in4 (-1) 0 0 1) (Ci.in4 2 1 0 0) (Ci.in4 2 (-1) 0 0) (Ci.in4 3 0 2 1) (by first|omega|rfl) (by first|omega|rfl) (by first|omega|rfl) (by first|omega|rfl)) ?_
 refine Run.dr ?_
 refine RunD.cV [] (.s (.o (.c (.int .i64 0)))) (fun _ _ _ H=>l20num 0) ?_
 refine RunD.cV (fC (1:Rat)).toList (.s (.agg (ks 0 4))) (fun _ _ _ H=>fInt 1 (by decide) (by decide)) ?_
 refine RunD.bi [] (cb true) (fun _ _ _ o1 o2 _ ho hx hy=>ex_eql_frac (r:=(rf (1:Rat))) (q:=(rf (1:Rat))) o1 o2 ho hx hy ((rf_dec (1:Rat) (1:Rat)).trans (decide_eq_true rfl))) ?_
 refine RunD.cV [] (.s (.o (.c (.int .i64 0)))) (fun _ _ _ H=>l20num 0) ?_
 refine RunD.cV (ciC (Ci.in4 3 0 (-2) 1)).toList (.s (.agg (ks 0 16))) (fun _ _ _ H=>l20in 3 0 (-2) 1 (by first|omega|rfl) (by first|omega|rfl) (by first|omega|rfl) (by first|omega|rfl)) ?_
 refine RunD.bi [] (cb true) (fun _ _ _ o1 o2 _ ho hx hy=>ex_eql_dk (r:=(rci (Ci.in4 3 0 (-2) 1))) (q:=(rci (Ci.in4 3 0 (-2) 1))) o1 o2 ho hx hy ((rci_dec (Ci.in4 3 0 (-2) 1) (Ci.in4 3 0 (-2) 1)).trans (decide_eq_true rfl))) ?_
 refine RunD.bi [] (cb true) (fun _ _ _ o1 o2 _ ho hx hy=>ex_eql_dk (r:=(rci (Ci.in4 3 0 2 1))) (q:=(rci (Ci.in4 3 0 2 1))) o1 o2 ho hx hy ((rci_dec (Ci.in4 3 0 2 1) (Ci.in4 3 0 2 1)).trans (decide_eq_true rfl))) ?_
 refine RunD.cV [] (.s (.o (.c (.int .i64 0)))) (fun _ _ _ H=>l20num 0) ?_
 refine RunD.cV (ciC (Ci.in4 15 0 4 1)).toList (.s (.agg (ks 0 16))) (fun _ _ _ H=>l20in 15 0 4 1 (by first|omega|rfl) (by first|omega|rfl) (by first|omega|rfl) (by first|omega|rfl)) ?_
 refine RunD.bi [] (cb true) (fun _ _ _ o1 o2 _ ho hx hy=>ex_eql_dk (r:=(rci (Ci.in4 15 0 4 1))) (q:=(rci (Ci.in4 15 0 4 1))) o1 o2 ho hx hy ((rci_dec (Ci.in4 15 0 4 1) (Ci.in4 15 0 4 1)).trans (decide_eq_true rfl))) ?_
 refine RunD.en ?_
 exact Run.rV rfl
end Go.Proofs.YtcdbmjnipaochaaGreat
namespace Go.Proofs.YtcdbmjnipaochaaGreat
open Go.RowKit Rgn Eng
section
variable {a b c:Ci}
theorem er_t{x:Ci}(h:cifits (rci x)=true):(cierr x != 0)=false:=by rw [ok_e h];rfl
theorem er_f{x:Ci}(h:cifits (rci x)=false):(cierr x != 0)=true:=by unfold cierr;rw [if_neg (by rw [h];decide)];rfl
theorem f4_g(h1:cifits (rci (Ci.f4p a b c))=true)(h2:cifits (rci (Ci.f4q a b c))=true):¬ Ci.f4b a b c=true:=by
 unfold Ci.f4b;rw [er_t h1,er_t h2];decide
theorem f4_P(h1:cifits (rci (Ci.f4p a b c))=true)(h2:cifits (rci (Ci.f4q a b c))=true):decide (Ci.f4P a b c=rci (Ci.f4p a b c))=true:=by
 unfold Ci.f4P;rw [if_neg (f4_g h1 h2),ok_r h1];exact decide_eq_true rfl
theorem f4_Q(h1:cifits (rci (Ci.f4p a b c))=true)(h2:cifits (rci (Ci.f4q a b c))=true):decide (Ci.f4Q a b c=rci (Ci.f4q a b c))=true:=by
 unfold Ci.f4Q;rw [if_neg (f4_g h1 h2),ok_r h2];exact decide_eq_true rfl
theorem f4_0(h1:cifits (rci (Ci.f4p a b c))=true)(h2:cifits (rci (Ci.f4q a b c))=true):(Ci.f4E a b c == 0)=true:=by
 unfold Ci.f4E;rw [if_neg (f4_g h1 h2)];rfl
theorem f4_n6(h1:cifits (rci (Ci.f4p a b c))=false):Ci.f4b a b c=true:=by unfold Ci.f4b;rw [er_f h1];rfl
theorem f4_n7(_h:cifits (rci (Ci.f4p a b c))=true)(h1:cifits (rci (Ci.f4q a b c))=false):Ci.f4b a b c=true:=by unfold Ci.f4b;rw [er_f h1,Bool.or_true]
theorem f4_zP(h:Ci.f4b a b c=true):decide (Ci.f4P a b c=rzCi)=true:=by unfold Ci.f4P;rw [if_pos h];exact decide_eq_true rfl
theorem f4_zQ(h:Ci.f4b a b c=true):decide (Ci.f4Q a b c=rzCi)=true:=by unfold Ci.f4Q;rw [if_pos h];exact decide_eq_true rfl
end
end Go.Proofs.YtcdbmjnipaochaaGreat
namespace Go.Proofs.YtcdbmjnipaochaaGreat
open Go.RowKit Rgn
structure PnF (P:Pn):Prop where
 z:P.inf=true→P.z=⟨0,0⟩
 f:pnfits P=true
theorem PnF.ht{P:Pn}(h:PnF P):ht P.z.re+ht P.z.im≤20000:=by
 cases e:P.inf with
 | true=>rw [h.z e];decide
 | false =>
  have:=h.f
  unfold pnfits at this
  rw [e] at this
  exact gfits_ht2 this
section
variable {m:Mb} {c:Ci} (h:m.det.zero=false) (hc:c.pos=true)
include h hc
end
end Go.Proofs.YtcdbmjnipaochaaGreat
namespace Go.Proofs.YtcdbmjnipaochaaGreat
open Go.RowKit Rgn Eng
section
variable {a b:Ci}
theorem dot_comm(a b:Ci):a.dot b=b.dot a:=by unfold Ci.dot Cx.mul Cx.conj;grind
theorem d11:Rat.divInt 1 1=(1:Rat):=by decide
end
end Go.Proofs.YtcdbmjnipaochaaGreat
namespace Go.Proofs.YtcdbmjnipaochaaGreat
open Go.RowKit Rgn
@[reducible] def Mb.st:Mb:=⟨⟨1,0⟩,⟨0,0⟩,⟨0,0⟩,⟨1,0⟩,false⟩
theorem rat_tri(x:Rat):x<0∨x=0∨0<x:=by
 rcases Rat.le_total (a:=0) (b:=x) with h|h<;>grind
theorem ci_ext{c d:Ci}(h1:c.a=d.a)(h2:c.b.re=d.b.re)(h3:c.b.im=d.b.im)(h4:c.c=d.c):c=d:=by
 obtain⟨a,⟨b1,b2⟩,f⟩:=c
 obtain⟨g,⟨e1,e2⟩,k⟩:=d
 simp_all
@[reducible] def Ci.duo(c d:Ci):Mb:=c.over.dot (Mb.cjM true d.over)
@[reducible] def Mb.adj(m:Mb):Mb:=Mb.cjM m.t ⟨m.d,m.b.neg,m.c.neg,m.a,m.t⟩
theorem of2:Cx.ofInt (0:Int) (1:Int)=⟨0,1⟩:=by decide +kernel
end Go.Proofs.YtcdbmjnipaochaaGreat
namespace Go.Proofs.YtcdbmjnipaochaaGreat
open Go.RowKit Rgn
def rabs(x:Rat):Rat:=if x.num<0 then -x else x
end Go.Proofs.YtcdbmjnipaochaaGreat
namespace Go.Proofs.YtcdbmjnipaochaaGreat
open Go.RowKit Rgn Eng
def Pn.hv(p:Pn):Cx:=if p.inf=true then ⟨1,0⟩ else p.z
def Pn.hw(p:Pn):Cx:=if p.inf=true then ⟨0,0⟩ else ⟨1,0⟩
theorem out_times(c:Ci):c.out=c.times (-1):=by
 unfold Ci.out
 refine ci_ext ?_ ?_ ?_ ?_<;>simp only [Ci.times,Cx.scale,Cx.neg]<;>grind
def Ci.ext(d:Ci):Pn :=
 if decide (0<d.rim.side ⟨false,Cx.ofInt 0 0⟩)=true then ⟨false,Cx.ofInt 0 0⟩
 else if decide (0<d.rim.side ⟨true,⟨0,0⟩⟩)=true then ⟨true,⟨0,0⟩⟩
 else if decide (d.a.num.sign<0)=true then ⟨false,d.b.scale d.a⁻¹⟩
 else ⟨false,((Cx.mk d.b.re 0).add ((Cx.mk d.b.im 0).mul (Cx.ofInt (0:Int) (1:Int)))).scale (-(rabs d.c+Rat.divInt (1:Int) (1:Int)))⟩
section
variable {d:Ci} {m:Mb} {b:Bool}
end
end Go.Proofs.YtcdbmjnipaochaaGreat
namespace Go.Proofs.YtcdbmjnipaochaaGreat
open Go.RowKit Rgn Eng
theorem dot_self(s:Ci):s.dot s=s.a*s.c-s.b.norm:=by
 have h2:Rat.divInt (1:Int) (2:Int)=(1:Rat)/2:=by rw [Rat.divInt_eq_div];rfl
 unfold Ci.dot;rw [h2];simp only [Cx.mul,Cx.conj,Cx.norm];grind
theorem half_q:Rat.divInt (1:Int) (2:Int)=(1:Rat)/2:=by rw [Rat.divInt_eq_div];rfl
theorem dot_pl(a b e:Ci):(a.plus b).dot e=a.dot e+b.dot e:=by
 unfold Ci.plus Ci.dot;rw [half_q];simp only [Cx.mul,Cx.conj,Cx.add];grind
theorem dot_ou(a e:Ci):a.out.dot e=-(a.dot e):=by
 unfold Ci.out Ci.dot;rw [half_q];simp only [Cx.mul,Cx.conj,Cx.neg];grind
theorem dot_swp(a b c d x e:Ci):(Ci.swp a b c d x).dot e=2*(a.dot e+b.dot e+c.dot e+d.dot e)-3*x.dot e:=by
 unfold Ci.swp;simp only [dot_pl,dot_ou];grind
theorem dot_swr(a b c d x e:Ci):e.dot (Ci.swp a b c d x)=2*(e.dot a+e.dot b+e.dot c+e.dot d)-3*e.dot x:=by
 rw [dot_comm,dot_swp,dot_comm a,dot_comm b,dot_comm c,dot_comm d,dot_comm x]
structure Q4.ok (x:Q4):Prop where
 aa:x.a.dot x.a=-1
 bb:x.b.dot x.b=-1
 cc:x.c.dot x.c=-1
 dd:x.d.dot x.d=-1
 ab:x.a.dot x.b=1
 ac:x.a.dot x.c=1
 ad:x.a.dot x.d=1
 bc:x.b.dot x.c=1
 bd:x.b.dot x.d=1
 cd:x.c.dot x.d=1
theorem sw_q0(x:Q4):x.sw 0=⟨Ci.swp x.a x.b x.c x.d x.a,x.b,x.c,x.d⟩:=by unfold Q4.sw;rw [if_pos rfl]
theorem sw_q1(x:Q4):x.sw 1=⟨x.a,Ci.swp x.a x.b x.c x.d x.b,x.c,x.d⟩:=by unfold Q4.sw;rw [if_neg (by decide),if_pos rfl]
theorem sw_q2(x:Q4):x.sw 2=⟨x.a,x.b,Ci.swp x.a x.b x.c x.d x.c,x.d⟩:=by unfold Q4.sw;rw [if_neg (by decide),if_neg (by decide),if_pos rfl]
theorem sw_q3(x:Q4):x.sw 3=⟨x.a,x.b,x.c,Ci.swp x.a x.b x.c x.d x.d⟩:=by unfold Q4.sw;rw [if_neg (by decide),if_neg (by decide),if_neg (by decide)]
theorem Q4.ok.sw{x:Q4}(h:x.ok){i:Int}(hi:badI i=false):(x.sw i).ok:=by
 obtain⟨h1,h2,h3,h4,h5,h6,h7,h8,h9,h10⟩:=h
 have c1:=(dot_comm x.b x.a).trans h5
 have c2:=(dot_comm x.c x.a).trans h6
 have c3:=(dot_comm x.d x.a).trans h7
 have c4:=(dot_comm x.c x.b).trans h8
 have c5:=(dot_comm x.d x.b).trans h9
 have c6:=(dot_comm x.d x.c).trans h10
 rcases bad4 hi with rfl|rfl|rfl|rfl
 ·rw [sw_q0];constructor<;>simp only [dot_swp,dot_swr]<;>grind
 ·rw [sw_q1];constructor<;>simp only [dot_swp,dot_swr]<;>grind
 ·rw [sw_q2];constructor<;>simp only [dot_swp,dot_swr]<;>grind
 ·rw [sw_q3];constructor<;>simp only [dot_swp,dot_swr]<;>grind
theorem tch_ok{a b c:Ci}(h1:b.dot a=1)(h2:b.dot c=1)(h3:a.dot c=1):b.touch a=true:=by
 unfold Ci.touch
 rw [decide_eq_true h1,Bool.true_and,Bool.not_eq_true']
 refine decide_eq_false fun e=>?_
 rw [e,dot_ou,h3] at h2
 exact absurd h2 (by decide)
theorem Q4.ok.all{x:Q4}(h:x.ok):Ci.all4 x.a x.b x.c x.d=true:=by
 obtain⟨h1,h2,h3,h4,h5,h6,h7,h8,h9,h10⟩:=h
 have c1:=(dot_comm x.b x.a).trans h5
 have c2:=(dot_comm x.c x.a).trans h6
 have c3:=(dot_comm x.d x.a).trans h7
 have c4:=(dot_comm x.c x.b).trans h8
 have c5:=(dot_comm x.d x.b).trans h9
 have c6:=(dot_comm x.d x.c).trans h10
 unfold Ci.all4
 simp only [List.all_cons,List.all_nil,id,tch_ok c1 h8 h6,tch_ok c2 c4 h5,tch_ok c4 c2 c1,tch_ok c3 c5 h5,tch_ok c5 c3 c1,tch_ok c6 c3 c2,Bool.and_true]
theorem touch_dot{a b:Ci}(h:a.touch b=true):a.dot b=1:=by
 unfold Ci.touch at h;rw [Bool.and_eq_true] at h;exact of_decide_eq_true h.1
theorem Q4.ok.of{x:Q4}(h1:x.a.dot x.a=-1)(h2:x.b.dot x.b=-1)(h3:x.c.dot x.c=-1)(h4:x.d.dot x.d=-1)(h:Ci.all4 x.a x.b x.c x.d=true):x.ok:=by
 unfold Ci.all4 at h
 simp only [List.all_cons,List.all_nil,id,Bool.and_true,Bool.and_eq_true] at h
 obtain⟨⟨t1,t2,t3⟩,t4,t5,t6⟩:=h
 exact⟨h1,h2,h3,h4,(dot_comm _ _).trans (touch_dot t1),(dot_comm _ _).trans (touch_dot t2),(dot_comm _ _).trans (touch_dot t4),(dot_comm _ _).trans (touch_dot t3),(dot_comm _ _).trans (touch_dot t5),(dot_comm _ _).trans (touch_dot t6)⟩
theorem swp_swp(a b c d:Ci):Ci.swp (Ci.swp a b c d a) b c d (Ci.swp a b c d a)=a∧Ci.swp a (Ci.swp a b c d b) c d (Ci.swp a b c d b)=b∧Ci.swp a b (Ci.swp a b c d c) d (Ci.swp a b c d c)=c∧Ci.swp a b c (Ci.swp a b c d d) (Ci.swp a b c d d)=d:=by
 refine⟨?_,?_,?_,?_⟩<;>refine ci_ext ?_ ?_ ?_ ?_<;>simp only [Ci.swp,Ci.plus,Ci.out,Cx.add,Cx.neg]<;>grind
theorem Q4.sw_sw(x:Q4){i:Int}(hi:badI i=false):(x.sw i).sw i=x:=by
 obtain⟨a,b,c,d⟩:=x
 obtain⟨h1,h2,h3,h4⟩:=swp_swp a b c d
 rcases bad4 hi with rfl|rfl|rfl|rfl
 ·rw [sw_q0,sw_q0];simp only [h1]
 ·rw [sw_q1,sw_q1];simp only [h2]
 ·rw [sw_q2,sw_q2];simp only [h3]
 ·rw [sw_q3,sw_q3];simp only [h4]
theorem Q4.sws_app(l m:List Int)(x:Q4):x.sws (l++m)=(x.sws l).bind (fun y=>y.sws m):=by
 induction l generalizing x with
 | nil=>rfl
 | cons i l ih =>
  show (if _ then (x.sw i).sws (l++m) else none)=Option.bind (if _ then (x.sw i).sws l else none) _
  split
  ·exact ih (x.sw i)
  ·rfl
@[reducible] def Q4.B(x:Q4):Rat:=x.a.a+x.b.a+x.c.a+x.d.a
@[reducible] def Q4.D(x:Q4):Prop:=x.B*x.B=2*(x.a.a*x.a.a+x.b.a*x.b.a+x.c.a*x.c.a+x.d.a*x.d.a)
theorem swp_a(a b c d x:Ci):(Ci.swp a b c d x).a=2*(a.a+b.a+c.a+d.a)-3*x.a:=by
 simp only [Ci.swp,Ci.plus,Ci.out];grind
theorem Q4.D.sw{x:Q4}(h:x.D){i:Int}(hi:badI i=false):(x.sw i).D:=by
 unfold Q4.D Q4.B at h ⊢
 rcases bad4 hi with rfl|rfl|rfl|rfl
 ·rw [sw_q0];simp only [swp_a];grind
 ·rw [sw_q1];simp only [swp_a];grind
 ·rw [sw_q2];simp only [swp_a];grind
 ·rw [sw_q3];simp only [swp_a];grind
theorem pos_one{t u v w:Rat}(hD:(t+u+v+w)*(t+u+v+w)=2*(t*t+u*u+v*v+w*w))(hp:0<t+u+v+w):0<3*(t+u+v+w)-4*t:=by
 have key:(t+u+v+w)*(3*(t+u+v+w)-4*t)=2*((u+v+w)*(u+v+w))+2*(u*u+v*v+w*w):=by grind
 have s1:=sq_nn (u+v+w)
 have s2:=sq_nn u
 have s3:=sq_nn v
 have s4:=sq_nn w
 rcases rat_tri (3*(t+u+v+w)-4*t) with g|g|g
 ·have:=Rat.mul_pos hp (show 0 < -(3*(t+u+v+w)-4*t) by grind)
  exfalso
  generalize (t+u+v+w)*(3*(t+u+v+w)-4*t)=z at key
  grind
 ·exfalso
  rw [g,Rat.mul_zero] at key
  have q2:u*u=0:=by grind
  have q3:v*v=0:=by grind
  have q4:w*w=0:=by grind
  have z:∀ y:Rat,y*y=0→y=0:=fun y h=>by rcases Rat.mul_eq_zero.1 h with h|h<;>exact h
  have e2:=z u q2
  have e3:=z v q3
  have e4:=z w q4
  subst e2;subst e3;subst e4
  have:t*t=0:=by grind
  have e1:=z t this
  subst e1
  grind
 ·exact g
theorem Q4.B.sw{x:Q4}(hD:x.D)(h:0<x.B){i:Int}(hi:badI i=false):0<(x.sw i).B:=by
 unfold Q4.D Q4.B at hD
 unfold Q4.B at h ⊢
 rcases bad4 hi with rfl|rfl|rfl|rfl
 ·rw [sw_q0];simp only [swp_a]
  have:=pos_one (t:=x.a.a) (u:=x.b.a) (v:=x.c.a) (w:=x.d.a) (by grind) (by grind);grind
 ·rw [sw_q1];simp only [swp_a]
  have:=pos_one (t:=x.b.a) (u:=x.a.a) (v:=x.c.a) (w:=x.d.a) (by grind) (by grind);grind
 ·rw [sw_q2];simp only [swp_a]
  have:=pos_one (t:=x.c.a) (u:=x.a.a) (v:=x.b.a) (w:=x.d.a) (by grind) (by grind);grind
 ·rw [sw_q3];simp only [swp_a]
  have:=pos_one (t:=x.d.a) (u:=x.a.a) (v:=x.b.a) (w:=x.c.a) (by grind) (by grind);grind
theorem mn3_det(xa xb xc ya yb yc za zb zc:Rat):mn3 xa xb xc ya yb yc za zb zc=xa*(yb*zc-yc*zb)+xb*(yc*za-ya*zc)+xc*(ya*zb-yb*za):=by unfold mn3;grind
section
variable (a1 r1 i1 c1 a2 r2 i2 c2 a3 r3 i3 c3:Rat)
@[reducible] def gg(a r i c a' r' i' c': Rat):Rat:=(a*c'+a'*c)*(1/2)-r*r'-i*i'
@[reducible] def mm(xa xb xc ya yb yc za zb zc:Rat):Rat:=xa*(yb*zc-yc*zb)+xb*(yc*za-ya*zc)+xc*(ya*zb-yb*za)
@[reducible] def adG(g11 g12 g13 g22 g23 g33 f1 f2 f3 h1 h2 h3:Rat):Rat:=(g22*g33-g23*g23)*f1*h1+(g11*g33-g13*g13)*f2*h2+(g11*g22-g12*g12)*f3*h3+(g13*g23-g12*g33)*(f1*h2+f2*h1)+(g12*g23-g13*g22)*(f1*h3+f3*h1)+(g12*g13-g11*g23)*(f2*h3+f3*h2)
@[reducible] def deG(g11 g12 g13 g22 g23 g33:Rat):Rat:=g11*(g22*g33-g23*g23)-g12*(g12*g33-g23*g13)+g13*(g12*g23-g22*g13)
theorem kaa:(mm a1 r1 i1 a2 r2 i2 a3 r3 i3)*(mm a1 r1 i1 a2 r2 i2 a3 r3 i3)=adG (gg a1 r1 i1 c1 a1 r1 i1 c1) (gg a1 r1 i1 c1 a2 r2 i2 c2) (gg a1 r1 i1 c1 a3 r3 i3 c3) (gg a2 r2 i2 c2 a2 r2 i2 c2) (gg a2 r2 i2 c2 a3 r3 i3 c3) (gg a3 r3 i3 c3 a3 r3 i3 c3) a1 a2 a3 a1 a2 a3:=by grind
theorem kar:(mm a1 r1 i1 a2 r2 i2 a3 r3 i3)*((mm a1 c1 i1 a2 c2 i2 a3 c3 i3)*(1/2))=adG (gg a1 r1 i1 c1 a1 r1 i1 c1) (gg a1 r1 i1 c1 a2 r2 i2 c2) (gg a1 r1 i1 c1 a3 r3 i3 c3) (gg a2 r2 i2 c2 a2 r2 i2 c2) (gg a2 r2 i2 c2 a3 r3 i3 c3) (gg a3 r3 i3 c3 a3 r3 i3 c3) a1 a2 a3 r1 r2 r3:=by grind
theorem kai:-((mm a1 r1 i1 a2 r2 i2 a3 r3 i3)*((mm a1 c1 r1 a2 c2 r2 a3 c3 r3)*(1/2)))=adG (gg a1 r1 i1 c1 a1 r1 i1 c1) (gg a1 r1 i1 c1 a2 r2 i2 c2) (gg a1 r1 i1 c1 a3 r3 i3 c3) (gg a2 r2 i2 c2 a2 r2 i2 c2) (gg a2 r2 i2 c2 a3 r3 i3 c3) (gg a3 r3 i3 c3 a3 r3 i3 c3) a1 a2 a3 i1 i2 i3:=by grind
theorem kri:-((mm a1 c1 i1 a2 c2 i2 a3 c3 i3)*(1/2)*((mm a1 c1 r1 a2 c2 r2 a3 c3 r3)*(1/2)))=adG (gg a1 r1 i1 c1 a1 r1 i1 c1) (gg a1 r1 i1 c1 a2 r2 i2 c2) (gg a1 r1 i1 c1 a3 r3 i3 c3) (gg a2 r2 i2 c2 a2 r2 i2 c2) (gg a2 r2 i2 c2 a3 r3 i3 c3) (gg a3 r3 i3 c3 a3 r3 i3 c3) r1 r2 r3 i1 i2 i3:=by grind
theorem krr:(mm a1 c1 i1 a2 c2 i2 a3 c3 i3)*(1/2)*((mm a1 c1 i1 a2 c2 i2 a3 c3 i3)*(1/2))=adG (gg a1 r1 i1 c1 a1 r1 i1 c1) (gg a1 r1 i1 c1 a2 r2 i2 c2) (gg a1 r1 i1 c1 a3 r3 i3 c3) (gg a2 r2 i2 c2 a2 r2 i2 c2) (gg a2 r2 i2 c2 a3 r3 i3 c3) (gg a3 r3 i3 c3 a3 r3 i3 c3) r1 r2 r3 r1 r2 r3+deG (gg a1 r1 i1 c1 a1 r1 i1 c1) (gg a1 r1 i1 c1 a2 r2 i2 c2) (gg a1 r1 i1 c1 a3 r3 i3 c3) (gg a2 r2 i2 c2 a2 r2 i2 c2) (gg a2 r2 i2 c2 a3 r3 i3 c3) (gg a3 r3 i3 c3 a3 r3 i3 c3):=by grind
theorem kii:(mm a1 c1 r1 a2 c2 r2 a3 c3 r3)*(1/2)*((mm a1 c1 r1 a2 c2 r2 a3 c3 r3)*(1/2))=adG (gg a1 r1 i1 c1 a1 r1 i1 c1) (gg a1 r1 i1 c1 a2 r2 i2 c2) (gg a1 r1 i1 c1 a3 r3 i3 c3) (gg a2 r2 i2 c2 a2 r2 i2 c2) (gg a2 r2 i2 c2 a3 r3 i3 c3) (gg a3 r3 i3 c3 a3 r3 i3 c3) i1 i2 i3 i1 i2 i3+deG (gg a1 r1 i1 c1 a1 r1 i1 c1) (gg a1 r1 i1 c1 a2 r2 i2 c2) (gg a1 r1 i1 c1 a3 r3 i3 c3) (gg a2 r2 i2 c2 a2 r2 i2 c2) (gg a2 r2 i2 c2 a3 r3 i3 c3) (gg a3 r3 i3 c3 a3 r3 i3 c3):=by grind
theorem kvv:-((mm a1 r1 i1 a2 r2 i2 a3 r3 i3)*(mm c1 r1 i1 c2 r2 i2 c3 r3 i3))-(mm a1 c1 i1 a2 c2 i2 a3 c3 i3)*(1/2)*((mm a1 c1 i1 a2 c2 i2 a3 c3 i3)*(1/2))-(mm a1 c1 r1 a2 c2 r2 a3 c3 r3)*(1/2)*((mm a1 c1 r1 a2 c2 r2 a3 c3 r3)*(1/2))=-(deG (gg a1 r1 i1 c1 a1 r1 i1 c1) (gg a1 r1 i1 c1 a2 r2 i2 c2) (gg a1 r1 i1 c1 a3 r3 i3 c3) (gg a2 r2 i2 c2 a2 r2 i2 c2) (gg a2 r2 i2 c2 a3 r3 i3 c3) (gg a3 r3 i3 c3 a3 r3 i3 c3)):=by grind
end
theorem gg_dot(x y:Ci):gg x.a x.b.re x.b.im x.c y.a y.b.re y.b.im y.c=x.dot y:=by
 unfold Ci.dot;rw [half_q];simp only [Cx.mul,Cx.conj];grind
theorem acr_a(x y z:Ci):(Ci.acr x y z).a=-(mm x.a x.b.re x.b.im y.a y.b.re y.b.im z.a z.b.re z.b.im):=by
 show -(mn3 ..)=_;rw [mn3_det]
theorem acr_c(x y z:Ci):(Ci.acr x y z).c=mm x.c x.b.re x.b.im y.c y.b.re y.b.im z.c z.b.re z.b.im:=by
 show mn3 ..=_;rw [mn3_det]
theorem mhalf:Rat.divInt (-1:Int) (2:Int)=-(1/2:Rat):=by rw [Rat.divInt_eq_div];decide +kernel
theorem acr_re(x y z:Ci):(Ci.acr x y z).b.re=-(mm x.a x.c x.b.im y.a y.c y.b.im z.a z.c z.b.im*(1/2)):=by
 unfold Ci.acr;rw [of2,mhalf];simp only [Cx.scale,Cx.add,Cx.mul,mn3_det];grind
theorem acr_im(x y z:Ci):(Ci.acr x y z).b.im=mm x.a x.c x.b.re y.a y.c y.b.re z.a z.c z.b.re*(1/2):=by
 unfold Ci.acr;rw [of2,mhalf];simp only [Cx.scale,Cx.add,Cx.mul,mn3_det];grind
structure Ci.ok3 (x y z:Ci):Prop where
 aa:x.dot x=-1
 bb:y.dot y=-1
 cc:z.dot z=-1
 ab:x.dot y=1
 ac:x.dot z=1
 bc:y.dot z=1
section
variable {x y z:Ci} (h:Ci.ok3 x y z)
include h
theorem g3:gg x.a x.b.re x.b.im x.c x.a x.b.re x.b.im x.c=-1∧gg x.a x.b.re x.b.im x.c y.a y.b.re y.b.im y.c=1∧gg x.a x.b.re x.b.im x.c z.a z.b.re z.b.im z.c=1∧gg y.a y.b.re y.b.im y.c y.a y.b.re y.b.im y.c=-1∧gg y.a y.b.re y.b.im y.c z.a z.b.re z.b.im z.c=1∧gg z.a z.b.re z.b.im z.c z.a z.b.re z.b.im z.c=-1 :=
 ⟨(gg_dot x x).trans h.aa,(gg_dot x y).trans h.ab,(gg_dot x z).trans h.ac,(gg_dot y y).trans h.bb,(gg_dot y z).trans h.bc,(gg_dot z z).trans h.cc⟩
theorem vAA:(Ci.acr x y z).a*(Ci.acr x y z).a=2*((x.a+y.a+z.a)*(x.a+y.a+z.a))-2*(x.a*x.a+y.a*y.a+z.a*z.a):=by
 have k:=kaa x.a x.b.re x.b.im x.c y.a y.b.re y.b.im y.c z.a z.b.re z.b.im z.c
 obtain⟨h1,h2,h3,h4,h5,h6⟩:=g3 h
 rw [h1,h2,h3,h4,h5,h6] at k
 rw [acr_a];generalize mm x.a x.b.re x.b.im y.a y.b.re y.b.im z.a z.b.re z.b.im=u at k ⊢;unfold adG at k;grind
theorem vAR:(Ci.acr x y z).a*(Ci.acr x y z).b.re=2*((x.a+y.a+z.a)*(x.b.re+y.b.re+z.b.re))-2*(x.a*x.b.re+y.a*y.b.re+z.a*z.b.re):=by
 have k:=kar x.a x.b.re x.b.im x.c y.a y.b.re y.b.im y.c z.a z.b.re z.b.im z.c
 obtain⟨h1,h2,h3,h4,h5,h6⟩:=g3 h
 rw [h1,h2,h3,h4,h5,h6] at k
 rw [acr_a,acr_re];generalize mm x.a x.b.re x.b.im y.a y.b.re y.b.im z.a z.b.re z.b.im=u at k ⊢;generalize mm x.a x.c x.b.im y.a y.c y.b.im z.a z.c z.b.im=u' at k ⊢;unfold adG at k;grind
theorem vAI:(Ci.acr x y z).a*(Ci.acr x y z).b.im=2*((x.a+y.a+z.a)*(x.b.im+y.b.im+z.b.im))-2*(x.a*x.b.im+y.a*y.b.im+z.a*z.b.im):=by
 have k:=kai x.a x.b.re x.b.im x.c y.a y.b.re y.b.im y.c z.a z.b.re z.b.im z.c
 obtain⟨h1,h2,h3,h4,h5,h6⟩:=g3 h
 rw [h1,h2,h3,h4,h5,h6] at k
 rw [acr_a,acr_im];generalize mm x.a x.b.re x.b.im y.a y.b.re y.b.im z.a z.b.re z.b.im=u at k ⊢;generalize mm x.a x.c x.b.re y.a y.c y.b.re z.a z.c z.b.re=u' at k ⊢;unfold adG at k;grind
theorem vRI:(Ci.acr x y z).b.re*(Ci.acr x y z).b.im=2*((x.b.re+y.b.re+z.b.re)*(x.b.im+y.b.im+z.b.im))-2*(x.b.re*x.b.im+y.b.re*y.b.im+z.b.re*z.b.im):=by
 have k:=kri x.a x.b.re x.b.im x.c y.a y.b.re y.b.im y.c z.a z.b.re z.b.im z.c
 obtain⟨h1,h2,h3,h4,h5,h6⟩:=g3 h
 rw [h1,h2,h3,h4,h5,h6] at k
 rw [acr_re,acr_im];generalize mm x.a x.c x.b.im y.a y.c y.b.im z.a z.c z.b.im=u at k ⊢;generalize mm x.a x.c x.b.re y.a y.c y.b.re z.a z.c z.b.re=u' at k ⊢;unfold adG at k;grind
theorem vRR:(Ci.acr x y z).b.re*(Ci.acr x y z).b.re=2*((x.b.re+y.b.re+z.b.re)*(x.b.re+y.b.re+z.b.re))-2*(x.b.re*x.b.re+y.b.re*y.b.re+z.b.re*z.b.re)+4:=by
 have k:=krr x.a x.b.re x.b.im x.c y.a y.b.re y.b.im y.c z.a z.b.re z.b.im z.c
 obtain⟨h1,h2,h3,h4,h5,h6⟩:=g3 h
 rw [h1,h2,h3,h4,h5,h6] at k
 rw [acr_re];generalize mm x.a x.c x.b.im y.a y.c y.b.im z.a z.c z.b.im=u at k ⊢;unfold adG deG at k;grind
theorem vII:(Ci.acr x y z).b.im*(Ci.acr x y z).b.im=2*((x.b.im+y.b.im+z.b.im)*(x.b.im+y.b.im+z.b.im))-2*(x.b.im*x.b.im+y.b.im*y.b.im+z.b.im*z.b.im)+4:=by
 have k:=kii x.a x.b.re x.b.im x.c y.a y.b.re y.b.im y.c z.a z.b.re z.b.im z.c
 obtain⟨h1,h2,h3,h4,h5,h6⟩:=g3 h
 rw [h1,h2,h3,h4,h5,h6] at k
 rw [acr_im];generalize mm x.a x.c x.b.re y.a y.c y.b.re z.a z.c z.b.re=u' at k ⊢;unfold adG deG at k;grind
theorem vVV:(Ci.acr x y z).dot (Ci.acr x y z)=-4:=by
 have k:=kvv x.a x.b.re x.b.im x.c y.a y.b.re y.b.im y.c z.a z.b.re z.b.im z.c
 obtain⟨h1,h2,h3,h4,h5,h6⟩:=g3 h
 rw [h1,h2,h3,h4,h5,h6] at k
 rw [dot_self]
 show (Ci.acr x y z).a*(Ci.acr x y z).c-((Ci.acr x y z).b.re*(Ci.acr x y z).b.re+(Ci.acr x y z).b.im*(Ci.acr x y z).b.im)=-4
 rw [acr_a,acr_c,acr_re,acr_im]
 generalize mm x.a x.b.re x.b.im y.a y.b.re y.b.im z.a z.b.re z.b.im=u at k ⊢
 generalize mm x.c x.b.re x.b.im y.c y.b.re y.b.im z.c z.b.re z.b.im=u2 at k ⊢
 generalize mm x.a x.c x.b.im y.a y.c y.b.im z.a z.c z.b.im=u3 at k ⊢
 generalize mm x.a x.c x.b.re y.a y.c y.b.re z.a z.c z.b.re=u4 at k ⊢
 unfold deG at k;grind
end
theorem vX(x y z e:Ci)(he:e=x∨e=y∨e=z):(Ci.acr x y z).dot e=0:=by
 have k:(Ci.acr x y z).dot e=((Ci.acr x y z).a*e.c+e.a*(Ci.acr x y z).c)*(1/2)-(Ci.acr x y z).b.re*e.b.re-(Ci.acr x y z).b.im*e.b.im:=(gg_dot _ _).symm
 rw [k,acr_a,acr_c,acr_re,acr_im]
 rcases he with rfl|rfl|rfl<;>grind
def Ci.yy(x y z:Ci)(t:Rat):Ci:=((x.plus y).plus z).plus ((Ci.acr x y z).times t)
theorem f4x_yy(x y z:Ci):Ci.f4x x y z=Ci.yy x y z 1:=by
 show ((x.plus y).plus z).plus (Ci.acr x y z)=_
 unfold Ci.yy;congr 1
 refine ci_ext ?_ ?_ ?_ ?_<;>simp only [Ci.times,Cx.scale,Rat.mul_one]
theorem f4y_yy(x y z:Ci):Ci.f4y x y z=Ci.yy x y z (-1):=by
 show ((x.plus y).plus z).plus (Ci.acr x y z).out=_
 unfold Ci.yy;rw [out_times]
theorem dot_tm(c d:Ci)(x:Rat):(c.times x).dot d=c.dot d*x:=by
 unfold Ci.dot;simp only [Ci.times,Cx.scale,Cx.mul,Cx.conj];grind
section
variable {x y z:Ci} (h:Ci.ok3 x y z) {t:Rat} (ht:t*t=1)
include h ht
theorem yy_ok:Q4.ok ⟨x,y,z,Ci.yy x y z t⟩:=by
 have k1:=vX x y z x (.inl rfl)
 have k2:=vX x y z y (.inr (.inl rfl))
 have k3:=vX x y z z (.inr (.inr rfl))
 have k4:=vVV h
 obtain⟨h1,h2,h3,h4,h5,h6⟩:=h
 have c1:=(dot_comm y x).trans h4
 have c2:=(dot_comm z x).trans h5
 have c3:=(dot_comm z y).trans h6
 have e1:(Ci.yy x y z t).dot x=1:=by unfold Ci.yy;simp only [dot_pl,dot_tm];grind
 have e2:(Ci.yy x y z t).dot y=1:=by unfold Ci.yy;simp only [dot_pl,dot_tm];grind
 have e3:(Ci.yy x y z t).dot z=1:=by unfold Ci.yy;simp only [dot_pl,dot_tm];grind
 have e4:(Ci.acr x y z).dot (Ci.yy x y z t)=-4*t:=by
  rw [dot_comm];unfold Ci.yy;simp only [dot_pl,dot_tm]
  rw [dot_comm x,dot_comm y,dot_comm z];grind
 have e5:(Ci.yy x y z t).dot (Ci.yy x y z t)=-1:=by
  have:(Ci.yy x y z t).dot (Ci.yy x y z t)=x.dot (Ci.yy x y z t)+y.dot (Ci.yy x y z t)+z.dot (Ci.yy x y z t)+(Ci.acr x y z).dot (Ci.yy x y z t)*t:=by
   conv=>lhs;arg 1;unfold Ci.yy
   simp only [dot_pl,dot_tm]
  rw [this,dot_comm x,dot_comm y,dot_comm z,e1,e2,e3,e4];grind
 exact⟨h1,h2,h3,e5,h4,h5,(dot_comm _ _).trans e1,h6,(dot_comm _ _).trans e2,(dot_comm _ _).trans e3⟩
theorem yy_D:Q4.D ⟨x,y,z,Ci.yy x y z t⟩:=by
 have k:=vAA h
 show (x.a+y.a+z.a+(x.a+y.a+z.a+(Ci.acr x y z).a*t))*(x.a+y.a+z.a+(x.a+y.a+z.a+(Ci.acr x y z).a*t))=2*(x.a*x.a+y.a*y.a+z.a*z.a+(x.a+y.a+z.a+(Ci.acr x y z).a*t)*(x.a+y.a+z.a+(Ci.acr x y z).a*t))
 generalize (Ci.acr x y z).a=v at k ⊢;grind
end
def s4(a b c d:Cx):Cx:=((((Cx.mk 0 0).add a).add b).add c).add d
def ruB(a b c d:Ci):Bool:=decide ((s4 ⟨a.a,0⟩ ⟨b.a,0⟩ ⟨c.a,0⟩ ⟨d.a,0⟩).mul (s4 ⟨a.a,0⟩ ⟨b.a,0⟩ ⟨c.a,0⟩ ⟨d.a,0⟩)=(s4 ((Cx.mk a.a 0).mul (Cx.mk a.a 0)) ((Cx.mk b.a 0).mul (Cx.mk b.a 0)) ((Cx.mk c.a 0).mul (Cx.mk c.a 0)) ((Cx.mk d.a 0).mul (Cx.mk d.a 0))).add (s4 ((Cx.mk a.a 0).mul (Cx.mk a.a 0)) ((Cx.mk b.a 0).mul (Cx.mk b.a 0)) ((Cx.mk c.a 0).mul (Cx.mk c.a 0)) ((Cx.mk d.a 0).mul (Cx.mk d.a 0))))
def ruM(a b c d:Ci):Bool:=decide ((s4 a.b b.b c.b d.b).mul (s4 a.b b.b c.b d.b)=(s4 (a.b.mul a.b) (b.b.mul b.b) (c.b.mul c.b) (d.b.mul d.b)).add (s4 (a.b.mul a.b) (b.b.mul b.b) (c.b.mul c.b) (d.b.mul d.b)))
def ruX(a b c d:Ci):Bool:=decide ((s4 ⟨a.a,0⟩ ⟨b.a,0⟩ ⟨c.a,0⟩ ⟨d.a,0⟩).mul (s4 a.b b.b c.b d.b)=(s4 ((Cx.mk a.a 0).mul a.b) ((Cx.mk b.a 0).mul b.b) ((Cx.mk c.a 0).mul c.b) ((Cx.mk d.a 0).mul d.b)).add (s4 ((Cx.mk a.a 0).mul a.b) ((Cx.mk b.a 0).mul b.b) ((Cx.mk c.a 0).mul c.b) ((Cx.mk d.a 0).mul d.b)))
section
variable {x y z:Ci} (h:Ci.ok3 x y z) {t:Rat} (ht:t*t=1)
include h ht
theorem yy_B:ruB x y z (Ci.yy x y z t)=true:=by
 have k:=vAA h
 refine decide_eq_true (Cx.ext' ?_ ?_)<;>simp only [s4,Cx.add,Cx.mul,Ci.yy,Ci.plus,Ci.times]<;>generalize (Ci.acr x y z).a=v at k ⊢<;>grind
theorem yy_M:ruM x y z (Ci.yy x y z t)=true:=by
 have k1:=vRR h
 have k2:=vII h
 have k3:=vRI h
 refine decide_eq_true (Cx.ext' ?_ ?_)<;>simp only [s4,Cx.add,Cx.mul,Ci.yy,Ci.plus,Ci.times,Cx.scale]<;>generalize (Ci.acr x y z).b.re=u at k1 k3 ⊢<;>generalize (Ci.acr x y z).b.im=v at k2 k3 ⊢<;>grind
theorem yy_X:ruX x y z (Ci.yy x y z t)=true:=by
 have k1:=vAR h
 have k2:=vAI h
 refine decide_eq_true (Cx.ext' ?_ ?_)<;>simp only [s4,Cx.add,Cx.mul,Ci.yy,Ci.plus,Ci.times,Cx.scale]<;>generalize (Ci.acr x y z).a=w at k1 k2 ⊢<;>generalize (Ci.acr x y z).b.re=u at k1 ⊢<;>generalize (Ci.acr x y z).b.im=v at k2 ⊢<;>grind
omit ht in
theorem yy_ne:Ci.yy x y z 1≠Ci.yy x y z (-1):=fun e=>by
 have k:=vVV h
 have e1:x.a+y.a+z.a+(Ci.acr x y z).a*1=x.a+y.a+z.a+(Ci.acr x y z).a*-1:=congrArg Ci.a e
 have e2:x.b.re+y.b.re+z.b.re+(Ci.acr x y z).b.re*1=x.b.re+y.b.re+z.b.re+(Ci.acr x y z).b.re*-1:=congrArg (fun c:Ci=>c.b.re) e
 have e3:x.b.im+y.b.im+z.b.im+(Ci.acr x y z).b.im*1=x.b.im+y.b.im+z.b.im+(Ci.acr x y z).b.im*-1:=congrArg (fun c:Ci=>c.b.im) e
 rw [dot_self] at k
 have k:(Ci.acr x y z).a*(Ci.acr x y z).c-((Ci.acr x y z).b.re*(Ci.acr x y z).b.re+(Ci.acr x y z).b.im*(Ci.acr x y z).b.im)=-4:=k
 have z1:(Ci.acr x y z).a=0:=by grind
 have z2:(Ci.acr x y z).b.re=0:=by grind
 have z3:(Ci.acr x y z).b.im=0:=by grind
 rw [z1,z2,z3] at k
 grind
end
theorem yy_swp(x y z:Ci)(t:Rat):Ci.swp x y z (Ci.yy x y z t) (Ci.yy x y z t)=Ci.yy x y z (-t):=by
 unfold Ci.swp Ci.yy
 refine ci_ext ?_ ?_ ?_ ?_<;>simp only [Ci.plus,Ci.out,Ci.times,Cx.add,Cx.neg,Cx.scale]<;>grind
theorem f4_yy(x y z:Ci):∃ t:Rat,t*t=1∧Ci.f4p x y z=Ci.yy x y z t∧Ci.f4q x y z=Ci.yy x y z (-t):=by
 unfold Ci.f4p Ci.f4q
 rw [f4x_yy,f4y_yy]
 split
 ·exact⟨-1,by decide +kernel,rfl,by rw [Rat.neg_neg]⟩
 ·exact⟨1,by decide +kernel,rfl,rfl⟩
theorem yy_ne2{x y z:Ci}(h:Ci.ok3 x y z){t:Rat}(ht:t*t=1):Ci.yy x y z t≠Ci.yy x y z (-t):=by
 have:t=1∨t=-1:=by
  have:(t-1)*(t+1)=0:=by grind
  rcases Rat.mul_eq_zero.1 this with k|k
  ·exact .inl (by grind)
  ·exact .inr (by grind)
 rcases this with rfl|rfl
 ·exact yy_ne h
 ·rw [Rat.neg_neg];exact (yy_ne h).symm
end Go.Proofs.YtcdbmjnipaochaaGreat
namespace Go.Proofs.YtcdbmjnipaochaaGreat
open Go.RowKit Rgn Eng
variable {S:Nat→Prop} {W:World}
theorem ru1{v0 v1 v2:Value}(x y z:Cx)(t0:(NumP x).p S v0 W)(t1:(NumP y).p S v1 W)(t2:(NumP z).p S v2 W)(p0:ht x.re+ht x.im+ht y.re+ht y.im+ht z.re+ht z.im≤6000000):Calls Tryz.prog 97 #[v0,v1,v2] W (RetV (.bool (decide (x.mul y=z.add z))) W):=by
 have h1:=hc_mul x y
 have h2:=hc_add z z
 have k0:=hc_mul x y
 have k1:=hc_add z z
 refine Run.goP (S:=S) (((Pack.nil.s spNum t0).s spNum t1).s spNum t2) Tryz.func97 rfl ?_
 refine Run.dr ?_
 refine RunD.cR spNum (fun _ _ _ H=>eNMul x y (NumP.mk (H.f 0) (H.f 1)) (NumP.mk (H.f 2) (H.f 3)) (by omega)) ?_
 refine RunD.cR spNum (fun _ _ _ H=>eAdd z z (NumP.mk (H.f 4) (H.f 5)) (NumP.mk (H.f 4) (H.f 5)) (by omega)) ?_
 refine RunD.cV [.bool (((x.mul y).sub (z.add z)).zero)] kb (fun _ _ _ H=>eSame (x.mul y) (z.add z) (NumP.mk (H.f 6) (H.f 7)) (NumP.mk (H.f 8) (H.f 9)) (by omega)) ?_
 refine RunD.en ?_
 exact Run.rV ((congrArg Value.bool (same_b _ _)))
theorem ruT(d0 d1 d2 d3:Ci)(p0:dsOk (rci d0)=true)(p1:dsOk (rci d1)=true)(p2:dsOk (rci d2)=true)(p3:dsOk (rci d3)=true):Calls Tryz.prog 17 #[.agg ⟨(ciC d0).toList++(ciC d1).toList++(ciC d2).toList++(ciC d3).toList⟩] W (RetV (.tuple #[.bool (ruB d0 d1 d2 d3),.bool (ruM d0 d1 d2 d3),.bool (ruX d0 d1 d2 d3),.int .i64 0]) W):=by
 have f0:=cifits_ht (dsOk_c p0).1
 have f1:=cifits_ht (dsOk_c p1).1
 have f2:=cifits_ht (dsOk_c p2).1
 have f3:=cifits_ht (dsOk_c p3).1
 obtain⟨ea0,eb0,ec0⟩:=hb_ci f0
 obtain⟨ea1,eb1,ec1⟩:=hb_ci f1
 obtain⟨ea2,eb2,ec2⟩:=hb_ci f2
 obtain⟨ea3,eb3,ec3⟩:=hb_ci f3
 have k0:=HB.add (HB.two (z:=Cx.mk 0 0) (Nat.le_of_eq ht_zero) (Nat.le_of_eq ht_zero) 2) (HB.two (z:=Cx.mk d0.a 0) ea0 (Nat.le_of_eq ht_zero) 40000) 40002
 have k1:=HB.add (HB.two (z:=Cx.mk 0 0) (Nat.le_of_eq ht_zero) (Nat.le_of_eq ht_zero) 2) eb0 40002
 have k2:=HB.mul (HB.two (z:=Cx.mk d0.a 0) ea0 (Nat.le_of_eq ht_zero) 40000) (HB.two (z:=Cx.mk d0.a 0) ea0 (Nat.le_of_eq ht_zero) 40000) 160000
 have k3:=HB.add (HB.two (z:=Cx.mk 0 0) (Nat.le_of_eq ht_zero) (Nat.le_of_eq ht_zero) 2) k2 160002
 have k4:=HB.mul eb0 eb0 160000
 have k5:=HB.add (HB.two (z:=Cx.mk 0 0) (Nat.le_of_eq ht_zero) (Nat.le_of_eq ht_zero) 2) k4 160002
 have k6:=HB.mul (HB.two (z:=Cx.mk d0.a 0) ea0 (Nat.le_of_eq ht_zero) 40000) eb0 160000
 have k7:=HB.add (HB.two (z:=Cx.mk 0 0) (Nat.le_of_eq ht_zero) (Nat.le_of_eq ht_zero) 2) k6 160002
 have k8:=HB.add k0 (HB.two (z:=Cx.mk d1.a 0) ea1 (Nat.le_of_eq ht_zero) 40000) 80002
 have k9:=HB.add k1 eb1 80002
 have k10:=HB.mul (HB.two (z:=Cx.mk d1.a 0) ea1 (Nat.le_of_eq ht_zero) 40000) (HB.two (z:=Cx.mk d1.a 0) ea1 (Nat.le_of_eq ht_zero) 40000) 160000
 have k11:=HB.add k3 k10 320002
 have k12:=HB.mul eb1 eb1 160000
 have k13:=HB.add k5 k12 320002
 have k14:=HB.mul (HB.two (z:=Cx.mk d1.a 0) ea1 (Nat.le_of_eq ht_zero) 40000) eb1 160000
 have k15:=HB.add k7 k14 320002
 have k16:=HB.add k8 (HB.two (z:=Cx.mk d2.a 0) ea2 (Nat.le_of_eq ht_zero) 40000) 120002
 have k17:=HB.add k9 eb2 120002
 have k18:=HB.mul (HB.two (z:=Cx.mk d2.a 0) ea2 (Nat.le_of_eq ht_zero) 40000) (HB.two (z:=Cx.mk d2.a 0) ea2 (Nat.le_of_eq ht_zero) 40000) 160000
 have k19:=HB.add k11 k18 480002
 have k20:=HB.mul eb2 eb2 160000
 have k21:=HB.add k13 k20 480002
 have k22:=HB.mul (HB.two (z:=Cx.mk d2.a 0) ea2 (Nat.le_of_eq ht_zero) 40000) eb2 160000
 have k23:=HB.add k15 k22 480002
 have k24:=HB.add k16 (HB.two (z:=Cx.mk d3.a 0) ea3 (Nat.le_of_eq ht_zero) 40000) 160002
 have k25:=HB.add k17 eb3 160002
 have k26:=HB.mul (HB.two (z:=Cx.mk d3.a 0) ea3 (Nat.le_of_eq ht_zero) 40000) (HB.two (z:=Cx.mk d3.a 0) ea3 (Nat.le_of_eq ht_zero) 40000) 160000
 have k27:=HB.add k19 k26 640002
 have k28:=HB.mul eb3 eb3 160000
 have k29:=HB.add k21 k28 640002
 have k30:=HB.mul (HB.two (z:=Cx.mk d3.a 0) ea3 (Nat.le_of_eq ht_zero) 40000) eb3 160000
 have k31:=HB.add k23 k30 640002
 refine Run.goP (S:=Z0) (Pack.nil.k (.agg ⟨(ciC d0).toList++(ciC d1).toList++(ciC d2).toList++(ciC d3).toList⟩) ((ciC d0).toList++(ciC d1).toList++(ciC d2).toList++(ciC d3).toList) (.s (.agg (ks 0 64)))) Tryz.func17 rfl ?_
 refine Run.cB (n:=4) (T:=147) (φs:=ringF [d0,d1,d2,d3]) (fun _ _ _ H=>pl4Y 30 d0 d1 d2 d3 (H.b 0) p0 p1 p2 p3) (fun cp1=>?_)
 refine Run.cR spNum (fun _ _ _ H=>eReal d0.a (H.f 0)) ?_
 refine Run.dr ?_
 refine RunD.cR spNum (fun _ _ _ H=>eAdd (Cx.mk 0 0) (Cx.mk d0.a 0) (NumP.mk (RatN.nil rfl) (RatN.nil rfl)) (NumP.mk (H.f 16) (H.f 17)) (Nat.le_trans (Nat.add_le_add (Nat.add_le_add (Nat.add_le_add (Nat.le_of_eq ht_zero) (Nat.le_of_eq ht_zero)) ea0) (Nat.le_of_eq ht_zero)) (by decide))) ?_
 refine RunD.cR spNum (fun _ _ _ H=>eAdd (Cx.mk 0 0) d0.b (NumP.mk (RatN.nil rfl) (RatN.nil rfl)) (NumP.mk (H.f 1) (H.f 2)) (Nat.le_trans (Nat.add_le_add (Nat.add_le_add (Nat.add_le_add (Nat.le_of_eq ht_zero) (Nat.le_of_eq ht_zero)) eb0.1) eb0.2) (by decide))) ?_
 refine RunD.en ?_
 refine Run.dr ?_
 refine RunD.cR spNum (fun _ _ _ H=>eNMul (Cx.mk d0.a 0) (Cx.mk d0.a 0) (NumP.mk (H.f 16) (H.f 17)) (NumP.mk (H.f 16) (H.f 17)) (Nat.le_trans (Nat.add_le_add (Nat.add_le_add (Nat.add_le_add ea0 (Nat.le_of_eq ht_zero)) ea0) (Nat.le_of_eq ht_zero)) (by decide))) ?_
 refine RunD.cR spNum (fun _ _ _ H=>eAdd (Cx.mk 0 0) ((Cx.mk d0.a 0).mul (Cx.mk d0.a 0)) (NumP.mk (RatN.nil rfl) (RatN.nil rfl)) (NumP.mk (H.f 22) (H.f 23)) (Nat.le_trans (Nat.add_le_add (Nat.add_le_add (Nat.add_le_add (Nat.le_of_eq ht_zero) (Nat.le_of_eq ht_zero)) k2.1) k2.2) (by decide))) ?_
 refine RunD.cR spNum (fun _ _ _ H=>eNMul d0.b d0.b (NumP.mk (H.f 1) (H.f 2)) (NumP.mk (H.f 1) (H.f 2)) (Nat.le_trans (Nat.add_le_add (Nat.add_le_add (Nat.add_le_add eb0.1 eb0.2) eb0.1) eb0.2) (by decide))) ?_
 refine RunD.cR spNum (fun _ _ _ H=>eAdd (Cx.mk 0 0) (d0.b.mul d0.b) (NumP.mk (RatN.nil rfl) (RatN.nil rfl)) (NumP.mk (H.f 26) (H.f 27)) (Nat.le_trans (Nat.add_le_add (Nat.add_le_add (Nat.add_le_add (Nat.le_of_eq ht_zero) (Nat.le_of_eq ht_zero)) k4.1) k4.2) (by decide))) ?_
 refine RunD.cR spNum (fun _ _ _ H=>eNMul (Cx.mk d0.a 0) d0.b (NumP.mk (H.f 16) (H.f 17)) (NumP.mk (H.f 1) (H.f 2)) (Nat.le_trans (Nat.add_le_add (Nat.add_le_add (Nat.add_le_add ea0 (Nat.le_of_eq ht_zero)) eb0.1) eb0.2) (by decide))) ?_
 refine RunD.cR spNum (fun _ _ _ H=>eAdd (Cx.mk 0 0) ((Cx.mk d0.a 0).mul d0.b) (NumP.mk (RatN.nil rfl) (RatN.nil rfl)) (NumP.mk (H.f 30) (H.f 31)) (Nat.le_trans (Nat.add_le_add (Nat.add_le_add (Nat.add_le_add (Nat.le_of_eq ht_zero) (Nat.le_of_eq ht_zero)) k6.1) k6.2) (by decide))) ?_
 refine RunD.en ?_
 refine Run.cR spNum (fun _ _ _ H=>eReal d1.a (H.f 4)) ?_
 refine Run.dr ?_
 refine RunD.cR spNum (fun _ _ _ H=>eAdd ((Cx.mk 0 0).add (Cx.mk d0.a 0)) (Cx.mk d1.a 0) (NumP.mk (H.f 18) (H.f 19)) (NumP.mk (H.f 34) (H.f 35)) (Nat.le_trans (Nat.add_le_add (Nat.add_le_add (Nat.add_le_add k0.1 k0.2) ea1) (Nat.le_of_eq ht_zero)) (by decide))) ?_
 refine RunD.cR spNum (fun _ _ _ H=>eAdd ((Cx.mk 0 0).add d0.b) d1.b (NumP.mk (H.f 20) (H.f 21)) (NumP.mk (H.f 5) (H.f 6)) (Nat.le_trans (Nat.add_le_add (Nat.add_le_add (Nat.add_le_add k1.1 k1.2) eb1.1) eb1.2) (by decide))) ?_
 refine RunD.en ?_
 refine Run.dr ?_
 refine RunD.cR spNum (fun _ _ _ H=>eNMul (Cx.mk d1.a 0) (Cx.mk d1.a 0) (NumP.mk (H.f 34) (H.f 35)) (NumP.mk (H.f 34) (H.f 35)) (Nat.le_trans (Nat.add_le_add (Nat.add_le_add (Nat.add_le_add ea1 (Nat.le_of_eq ht_zero)) ea1) (Nat.le_of_eq ht_zero)) (by decide))) ?_
 refine RunD.cR spNum (fun _ _ _ H=>eAdd ((Cx.mk 0 0).add ((Cx.mk d0.a 0).mul (Cx.mk d0.a 0))) ((Cx.mk d1.a 0).mul (Cx.mk d1.a 0)) (NumP.mk (H.f 24) (H.f 25)) (NumP.mk (H.f 40) (H.f 41)) (Nat.le_trans (Nat.add_le_add (Nat.add_le_add (Nat.add_le_add k3.1 k3.2) k10.1) k10.2) (by decide))) ?_
 refine RunD.cR spNum (fun _ _ _ H=>eNMul d1.b d1.b (NumP.mk (H.f 5) (H.f 6)) (NumP.mk (H.f 5) (H.f 6)) (Nat.le_trans (Nat.add_le_add (Nat.add_le_add (Nat.add_le_add eb1.1 eb1.2) eb1.1) eb1.2) (by decide))) ?_
 refine RunD.cR spNum (fun _ _ _ H=>eAdd ((Cx.mk 0 0).add (d0.b.mul d0.b)) (d1.b.mul d1.b) (NumP.mk (H.f 28) (H.f 29)) (NumP.mk (H.f 44) (H.f 45)) (Nat.le_trans (Nat.add_le_add (Nat.add_le_add (Nat.add_le_add k5.1 k5.2) k12.1) k12.2) (by decide))) ?_
 refine RunD.cR spNum (fun _ _ _ H=>eNMul (Cx.mk d1.a 0) d1.b (NumP.mk (H.f 34) (H.f 35)) (NumP.mk (H.f 5) (H.f 6)) (Nat.le_trans (Nat.add_le_add (Nat.add_le_add (Nat.add_le_add ea1 (Nat.le_of_eq ht_zero)) eb1.1) eb1.2) (by decide))) ?_
 refine RunD.cR spNum (fun _ _ _ H=>eAdd ((Cx.mk 0 0).add ((Cx.mk d0.a 0).mul d0.b)) ((Cx.mk d1.a 0).mul d1.b) (NumP.mk (H.f 32) (H.f 33)) (NumP.mk (H.f 48) (H.f 49)) (Nat.le_trans (Nat.add_le_add (Nat.add_le_add (Nat.add_le_add k7.1 k7.2) k14.1) k14.2) (by decide))) ?_
 refine RunD.en ?_
 refine Run.cR spNum (fun _ _ _ H=>eReal d2.a (H.f 8)) ?_
 refine Run.dr ?_
 refine RunD.cR spNum (fun _ _ _ H=>eAdd (((Cx.mk 0 0).add (Cx.mk d0.a 0)).add (Cx.mk d1.a 0)) (Cx.mk d2.a 0) (NumP.mk (H.f 36) (H.f 37)) (NumP.mk (H.f 52) (H.f 53)) (Nat.le_trans (Nat.add_le_add (Nat.add_le_add (Nat.add_le_add k8.1 k8.2) ea2) (Nat.le_of_eq ht_zero)) (by decide))) ?_
 refine RunD.cR spNum (fun _ _ _ H=>eAdd (((Cx.mk 0 0).add d0.b).add d1.b) d2.b (NumP.mk (H.f 38) (H.f 39)) (NumP.mk (H.f 9) (H.f 10)) (Nat.le_trans (Nat.add_le_add (Nat.add_le_add (Nat.add_le_add k9.1 k9.2) eb2.1) eb2.2) (by decide))) ?_
 refine RunD.en ?_
 refine Run.dr ?_
 refine RunD.cR spNum (fun _ _ _ H=>eNMul (Cx.mk d2.a 0) (Cx.mk d2.a 0) (NumP.mk (H.f 52) (H.f 53)) (NumP.mk (H.f 52) (H.f 53)) (Nat.le_trans (Nat.add_le_add (Nat.add_le_add (Nat.add_le_add ea2 (Nat.le_of_eq ht_zero)) ea2) (Nat.le_of_eq ht_zero)) (by decide))) ?_
 refine RunD.cR spNum (fun _ _ _ H=>eAdd (((Cx.mk 0 0).add ((Cx.mk d0.a 0).mul (Cx.mk d0.a 0))).add ((Cx.mk d1.a 0).mul (Cx.mk d1.a 0))) ((Cx.mk d2.a 0).mul (Cx.mk d2.a 0)) (NumP.mk (H.f 42) (H.f 43)) (NumP.mk (H.f 58) (H.f 59)) (Nat.le_trans (Nat.add_le_add (Nat.add_le_add (Nat.add_le_add k11.1 k11.2) k18.1) k18.2) (by decide))) ?_
 refine RunD.cR spNum (fun _ _ _ H=>eNMul d2.b d2.b (NumP.mk (H.f 9) (H.f 10)) (NumP.mk (H.f 9) (H.f 10)) (Nat.le_trans (Nat.add_le_add (Nat.add_le_add (Nat.add_le_add eb2.1 eb2.2) eb2.1) eb2.2) (by decide))) ?_
 refine RunD.cR spNum (fun _ _ _ H=>eAdd (((Cx.mk 0 0).add (d0.b.mul d0.b)).add (d1.b.mul d1.b)) (d2.b.mul d2.b) (NumP.mk (H.f 46) (H.f 47)) (NumP.mk (H.f 62) (H.f 63)) (Nat.le_trans (Nat.add_le_add (Nat.add_le_add (Nat.add_le_add k13.1 k13.2) k20.1) k20.2) (by decide))) ?_
 refine RunD.cR spNum (fun _ _ _ H=>eNMul (Cx.mk d2.a 0) d2.b (NumP.mk (H.f 52) (H.f 53)) (NumP.mk (H.f 9) (H.f 10)) (Nat.le_trans (Nat.add_le_add (Nat.add_le_add (Nat.add_le_add ea2 (Nat.le_of_eq ht_zero)) eb2.1) eb2.2) (by decide))) ?_
 refine RunD.cR spNum (fun _ _ _ H=>eAdd (((Cx.mk 0 0).add ((Cx.mk d0.a 0).mul d0.b)).add ((Cx.mk d1.a 0).mul d1.b)) ((Cx.mk d2.a 0).mul d2.b) (NumP.mk (H.f 50) (H.f 51)) (NumP.mk (H.f 66) (H.f 67)) (Nat.le_trans (Nat.add_le_add (Nat.add_le_add (Nat.add_le_add k15.1 k15.2) k22.1) k22.2) (by decide))) ?_
 refine RunD.en ?_
 refine Run.cR spNum (fun _ _ _ H=>eReal d3.a (H.f 12)) ?_
 refine Run.dr ?_
 refine RunD.cR spNum (fun _ _ _ H=>eAdd ((((Cx.mk 0 0).add (Cx.mk d0.a 0)).add (Cx.mk d1.a 0)).add (Cx.mk d2.a 0)) (Cx.mk d3.a 0) (NumP.mk (H.f 54) (H.f 55)) (NumP.mk (H.f 70) (H.f 71)) (Nat.le_trans (Nat.add_le_add (Nat.add_le_add (Nat.add_le_add k16.1 k16.2) ea3) (Nat.le_of_eq ht_zero)) (by decide))) ?_
 refine RunD.cR spNum (fun _ _ _ H=>eAdd ((((Cx.mk 0 0).add d0.b).add d1.b).add d2.b) d3.b (NumP.mk (H.f 56) (H.f 57)) (NumP.mk (H.f 13) (H.f 14)) (Nat.le_trans (Nat.add_le_add (Nat.add_le_add (Nat.add_le_add k17.1 k17.2) eb3.1) eb3.2) (by decide))) ?_
 refine RunD.en ?_
 refine Run.dr ?_
 refine RunD.cR spNum (fun _ _ _ H=>eNMul (Cx.mk d3.a 0) (Cx.mk d3.a 0) (NumP.mk (H.f 70) (H.f 71)) (NumP.mk (H.f 70) (H.f 71)) (Nat.le_trans (Nat.add_le_add (Nat.add_le_add (Nat.add_le_add ea3 (Nat.le_of_eq ht_zero)) ea3) (Nat.le_of_eq ht_zero)) (by decide))) ?_
 refine RunD.cR spNum (fun _ _ _ H=>eAdd ((((Cx.mk 0 0).add ((Cx.mk d0.a 0).mul (Cx.mk d0.a 0))).add ((Cx.mk d1.a 0).mul (Cx.mk d1.a 0))).add ((Cx.mk d2.a 0).mul (Cx.mk d2.a 0))) ((Cx.mk d3.a 0).mul (Cx.mk d3.a 0)) (NumP.mk (H.f 60) (H.f 61)) (NumP.mk (H.f 76) (H.f 77)) (Nat.le_trans (Nat.add_le_add (Nat.add_le_add (Nat.add_le_add k19.1 k19.2) k26.1) k26.2) (by decide))) ?_
 refine RunD.cR spNum (fun _ _ _ H=>eNMul d3.b d3.b (NumP.mk (H.f 13) (H.f 14)) (NumP.mk (H.f 13) (H.f 14)) (Nat.le_trans (Nat.add_le_add (Nat.add_le_add (Nat.add_le_add eb3.1 eb3.2) eb3.1) eb3.2) (by decide))) ?_
 refine RunD.cR spNum (fun _ _ _ H=>eAdd ((((Cx.mk 0 0).add (d0.b.mul d0.b)).add (d1.b.mul d1.b)).add (d2.b.mul d2.b)) (d3.b.mul d3.b) (NumP.mk (H.f 64) (H.f 65)) (NumP.mk (H.f 80) (H.f 81)) (Nat.le_trans (Nat.add_le_add (Nat.add_le_add (Nat.add_le_add k21.1 k21.2) k28.1) k28.2) (by decide))) ?_
 refine RunD.cR spNum (fun _ _ _ H=>eNMul (Cx.mk d3.a 0) d3.b (NumP.mk (H.f 70) (H.f 71)) (NumP.mk (H.f 13) (H.f 14)) (Nat.le_trans (Nat.add_le_add (Nat.add_le_add (Nat.add_le_add ea3 (Nat.le_of_eq ht_zero)) eb3.1) eb3.2) (by decide))) ?_
 refine RunD.cR spNum (fun _ _ _ H=>eAdd ((((Cx.mk 0 0).add ((Cx.mk d0.a 0).mul d0.b)).add ((Cx.mk d1.a 0).mul d1.b)).add ((Cx.mk d2.a 0).mul d2.b)) ((Cx.mk d3.a 0).mul d3.b) (NumP.mk (H.f 68) (H.f 69)) (NumP.mk (H.f 84) (H.f 85)) (Nat.le_trans (Nat.add_le_add (Nat.add_le_add (Nat.add_le_add k23.1 k23.2) k30.1) k30.2) (by decide))) ?_
 refine RunD.en ?_
 refine Run.dr ?_
 refine RunD.cV [.bool (decide ((((((Cx.mk 0 0).add (Cx.mk d0.a 0)).add (Cx.mk d1.a 0)).add (Cx.mk d2.a 0)).add (Cx.mk d3.a 0)).mul (((((Cx.mk 0 0).add (Cx.mk d0.a 0)).add (Cx.mk d1.a 0)).add (Cx.mk d2.a 0)).add (Cx.mk d3.a 0))=(((((Cx.mk 0 0).add ((Cx.mk d0.a 0).mul (Cx.mk d0.a 0))).add ((Cx.mk d1.a 0).mul (Cx.mk d1.a 0))).add ((Cx.mk d2.a 0).mul (Cx.mk d2.a 0))).add ((Cx.mk d3.a 0).mul (Cx.mk d3.a 0))).add (((((Cx.mk 0 0).add ((Cx.mk d0.a 0).mul (Cx.mk d0.a 0))).add ((Cx.mk d1.a 0).mul (Cx.mk d1.a 0))).add ((Cx.mk d2.a 0).mul (Cx.mk d2.a 0))).add ((Cx.mk d3.a 0).mul (Cx.mk d3.a 0)))))] kb (fun _ _ _ H=>ru1 (((((Cx.mk 0 0).add (Cx.mk d0.a 0)).add (Cx.mk d1.a 0)).add (Cx.mk d2.a 0)).add (Cx.mk d3.a 0)) (((((Cx.mk 0 0).add (Cx.mk d0.a 0)).add (Cx.mk d1.a 0)).add (Cx.mk d2.a 0)).add (Cx.mk d3.a 0)) (((((Cx.mk 0 0).add ((Cx.mk d0.a 0).mul (Cx.mk d0.a 0))).add ((Cx.mk d1.a 0).mul (Cx.mk d1.a 0))).add ((Cx.mk d2.a 0).mul (Cx.mk d2.a 0))).add ((Cx.mk d3.a 0).mul (Cx.mk d3.a 0))) (NumP.mk (H.f 72) (H.f 73)) (NumP.mk (H.f 72) (H.f 73)) (NumP.mk (H.f 78) (H.f 79)) (Nat.le_trans (Nat.add_le_add (Nat.add_le_add (Nat.add_le_add (Nat.add_le_add (Nat.add_le_add k24.1 k24.2) k24.1) k24.2) k27.1) k27.2) (by decide))) ?_
 refine RunD.cV [.bool (decide ((((((Cx.mk 0 0).add d0.b).add d1.b).add d2.b).add d3.b).mul (((((Cx.mk 0 0).add d0.b).add d1.b).add d2.b).add d3.b)=(((((Cx.mk 0 0).add (d0.b.mul d0.b)).add (d1.b.mul d1.b)).add (d2.b.mul d2.b)).add (d3.b.mul d3.b)).add (((((Cx.mk 0 0).add (d0.b.mul d0.b)).add (d1.b.mul d1.b)).add (d2.b.mul d2.b)).add (d3.b.mul d3.b))))] kb (fun _ _ _ H=>ru1 (((((Cx.mk 0 0).add d0.b).add d1.b).add d2.b).add d3.b) (((((Cx.mk 0 0).add d0.b).add d1.b).add d2.b).add d3.b) (((((Cx.mk 0 0).add (d0.b.mul d0.b)).add (d1.b.mul d1.b)).add (d2.b.mul d2.b)).add (d3.b.mul d3.b)) (NumP.mk (H.f 74) (H.f 75)) (NumP.mk (H.f 74) (H.f 75)) (NumP.mk (H.f 82) (H.f 83)) (Nat.le_trans (Nat.add_le_add (Nat.add_le_add (Nat.add_le_add (Nat.add_le_add (Nat.add_le_add k25.1 k25.2) k25.1) k25.2) k29.1) k29.2) (by decide))) ?_
 refine RunD.cV [.bool (decide ((((((Cx.mk 0 0).add (Cx.mk d0.a 0)).add (Cx.mk d1.a 0)).add (Cx.mk d2.a 0)).add (Cx.mk d3.a 0)).mul (((((Cx.mk 0 0).add d0.b).add d1.b).add d2.b).add d3.b)=(((((Cx.mk 0 0).add ((Cx.mk d0.a 0).mul d0.b)).add ((Cx.mk d1.a 0).mul d1.b)).add ((Cx.mk d2.a 0).mul d2.b)).add ((Cx.mk d3.a 0).mul d3.b)).add (((((Cx.mk 0 0).add ((Cx.mk d0.a 0).mul d0.b)).add ((Cx.mk d1.a 0).mul d1.b)).add ((Cx.mk d2.a 0).mul d2.b)).add ((Cx.mk d3.a 0).mul d3.b))))] kb (fun _ _ _ H=>ru1 (((((Cx.mk 0 0).add (Cx.mk d0.a 0)).add (Cx.mk d1.a 0)).add (Cx.mk d2.a 0)).add (Cx.mk d3.a 0)) (((((Cx.mk 0 0).add d0.b).add d1.b).add d2.b).add d3.b) (((((Cx.mk 0 0).add ((Cx.mk d0.a 0).mul d0.b)).add ((Cx.mk d1.a 0).mul d1.b)).add ((Cx.mk d2.a 0).mul d2.b)).add ((Cx.mk d3.a 0).mul d3.b)) (NumP.mk (H.f 72) (H.f 73)) (NumP.mk (H.f 74) (H.f 75)) (NumP.mk (H.f 86) (H.f 87)) (Nat.le_trans (Nat.add_le_add (Nat.add_le_add (Nat.add_le_add (Nat.add_le_add (Nat.add_le_add k24.1 k24.2) k25.1) k25.2) k31.1) k31.2) (by decide))) ?_
 refine RunD.en ?_
 exact Run.rV (rfl)
theorem rt7(d0 d1 d2 d3:Ci)(p0:dsOk (rci d0)=true)(p1:dsOk (rci d1)=true)(p2:dsOk (rci d2)=true)(p3:dsOk (rci d3)=true)(p4:Ci.all4 d0 d1 d2 d3=true)(p5:(decide ((((d0.plus d1).plus d2).plus d3).a.num.sign≤0))=true):Calls Tryz.prog 16 #[.agg ⟨(ciC d0).toList++(ciC d1).toList++(ciC d2).toList++(ciC d3).toList⟩] W (RetV (.tuple #[.agg ⟨(rciC rzCi).toList++(rciC rzCi).toList++(rciC rzCi).toList++(rciC rzCi).toList⟩,.slice none 0 0,.int .i64 7]) W):=by
 have f0:=cifits_ht (dsOk_c p0).1
 have f1:=cifits_ht (dsOk_c p1).1
 have f2:=cifits_ht (dsOk_c p2).1
 have f3:=cifits_ht (dsOk_c p3).1
 have h1:=plus_ht d0 d1
 have h2:=plus_ht (d0.plus d1) d2
 have h3:=plus_ht ((d0.plus d1).plus d2) d3
 refine Run.goP (S:=Z0) (Pack.nil.k (.agg ⟨(ciC d0).toList++(ciC d1).toList++(ciC d2).toList++(ciC d3).toList⟩) ((ciC d0).toList++(ciC d1).toList++(ciC d2).toList++(ciC d3).toList) (.s (.agg (ks 0 64)))) Tryz.func16 rfl ?_
 refine Run.cB (n:=4) (T:=147) (φs:=ringF [d0,d1,d2,d3]) (fun _ _ _ H=>frY d0 d1 d2 d3 p0 p1 p2 p3 p4) (fun cp1=>?_)
 refine Run.dr ?_
 refine RunD.cR spRing (fun _ _ _ H=>dsPlus d0 d1 (RingP.mk (H.f 0) (H.f 1) (H.f 2) (H.f 3)) (RingP.mk (H.f 4) (H.f 5) (H.f 6) (H.f 7)) (by omega)) ?_
 refine RunD.cR spRing (fun _ _ _ H=>dsPlus (d0.plus d1) d2 (RingP.mk (H.f 16) (H.f 17) (H.f 18) (H.f 19)) (RingP.mk (H.f 8) (H.f 9) (H.f 10) (H.f 11)) (by omega)) ?_
 refine RunD.cR spRing (fun _ _ _ H=>dsPlus ((d0.plus d1).plus d2) d3 (RingP.mk (H.f 20) (H.f 21) (H.f 22) (H.f 23)) (RingP.mk (H.f 12) (H.f 13) (H.f 14) (H.f 15)) (by omega)) ?_
 refine RunD.cV [.int .i64 (((((d0.plus d1).plus d2).plus d3).a).num.sign)] kb (fun _ _ _ H=>qSign ((((d0.plus d1).plus d2).plus d3).a) (H.f 24)) ?_
 refine RunD.bi [] (cb true) (fun _ _ _ o1 o2 _ ho hx hy=>ex_icmp .leq 3 (((((d0.plus d1).plus d2).plus d3).a).num.sign) 0 (kk:=.i64) rfl ho hx hy) ?_ (hV:=fun _ _=>congrArg Value.bool p5)
 refine RunD.en ?_
 exact Run.rV rfl
end Go.Proofs.YtcdbmjnipaochaaGreat
namespace Go.Proofs.YtcdbmjnipaochaaGreat
open Go.RowKit Rgn Eng
structure Q4.good (x:Q4):Prop where
 ok:x.ok
 fa:cifits (rci x.a)=true
 fb:cifits (rci x.b)=true
 fc:cifits (rci x.c)=true
 fd:cifits (rci x.d)=true
 D:x.D
 B:0<x.B
theorem top_bad(x:Q4):badI x.top=false:=by unfold Q4.top;repeat' split<;>first|rfl|skip
theorem Q4.good.at{x:Q4}(h:x.good)(i:Int):cifits (rci (x.at i))=true:=by
 unfold Q4.at;split
 ·exact h.fa
 ·split
  ·exact h.fb
  ·split
   ·exact h.fc
   ·exact h.fd
theorem Q4.good.sw{x:Q4}(h:x.good){i:Int}(hi:badI i=false)(hf:cifits (rci ((x.sw i).at i))=true):(x.sw i).good:=by
 refine⟨h.ok.sw hi,?_,?_,?_,?_,h.D.sw hi,Q4.B.sw h.D h.B hi⟩<;>rcases bad4 hi with rfl|rfl|rfl|rfl
 ·rw [at_0] at hf;exact hf
 ·rw [sw_1];exact h.fa
 ·rw [sw_2];exact h.fa
 ·rw [sw_3];exact h.fa
 ·rw [sw_0];exact h.fb
 ·rw [at_1] at hf;exact hf
 ·rw [sw_2];exact h.fb
 ·rw [sw_3];exact h.fb
 ·rw [sw_0];exact h.fc
 ·rw [sw_1];exact h.fc
 ·rw [at_2] at hf;exact hf
 ·rw [sw_3];exact h.fc
 ·rw [sw_0];exact h.fd
 ·rw [sw_1];exact h.fd
 ·rw [sw_2];exact h.fd
 ·rw [at_3] at hf;exact hf
theorem root_back:∀ (n:Nat) (x:Q4) (l:List Int) (y:Q4) (L:List Int) (k:Int),x.good→rootF n x l=(some (y,L),k)→l.length≤4096 →
  ∃ M,L=l++M∧y.good∧geB ((y.sw y.top).at y.top).a (y.at y.top).a=true∧M.any badI=false∧y.sws M.reverse=some x∧L.length≤4096∧k=0:=by
 intro n
 induction n with
 | zero=>intro x l y L k hx h hl;unfold rootF at h;cases h
 | succ n ih =>
  intro x l y L k hx h hl
  unfold rootF at h
  split at h
  ·rename_i hs
   cases h
   exact⟨[],by simp,hx,hs,rfl,rfl,hl,rfl⟩
  ·split at h
   ·cases h
   ·rename_i hne
    split at h
    ·rename_i hf
     obtain⟨M,e1,e2,e3,e4,e5,e6,e7⟩:=ih _ _ y L k (hx.sw (top_bad x) hf) h (by rw [List.length_append];show l.length+1≤4096;omega)
     refine⟨x.top::M,by rw [e1];simp,e2,e3,?_,?_,e6,e7⟩
     ·rw [List.any_cons,top_bad,e4];rfl
     ·rw [List.reverse_cons,Q4.sws_app,e5]
      show (if cifits (rci (((x.sw x.top).sw x.top).at x.top))=true then ((x.sw x.top).sw x.top).sws [] else none)=some x
      rw [Q4.sw_sw x (top_bad x),if_pos (hx.at _)];rfl
    ·cases h
theorem root_err:∀ (n:Nat) (x:Q4) (l:List Int) (k:Int),rootF n x l=(none,k)→n+l.length=4097→l.length≤4096→k=3∨k=4:=by
 intro n
 induction n with
 | zero=>intro x l k h h1 h2;omega
 | succ n ih =>
  intro x l k h h1 h2
  unfold rootF at h
  split at h
  ·cases h
  ·split at h
   ·cases h;exact .inl rfl
   ·rename_i hne
    split at h
    ·exact ih _ _ k h (by rw [List.length_append];show n+(l.length+1)=4097;omega) (by rw [List.length_append];show l.length+1≤4096;omega)
    ·cases h;exact .inr rfl
theorem root_root{n:Nat}{y:Q4}(h:geB ((y.sw y.top).at y.top).a (y.at y.top).a=true):rootF (n+1) y []=(some (y,[]),0):=by
 unfold rootF;rw [if_pos h]
end Go.Proofs.YtcdbmjnipaochaaGreat
namespace Go.Proofs.YtcdbmjnipaochaaGreat
open Go.RowKit Rgn Eng
variable {W:World}
theorem Q4.V_some{x:Q4}{k:Int}{o:Option Q4}(h:o=some x):Q4.V o k=.tuple #[.agg ⟨x.C⟩,.int .i64 0]:=by subst h;rfl
theorem Q4.V_none{k:Int}{o:Option Q4}(h:o=none):Q4.V o k=.tuple #[.agg ⟨Q4.z⟩,.int .i64 k]:=by subst h;rfl
theorem any1{k:Int}(h:badI k=false):[k].any badI=false:=by simp [h]
theorem swY(x y:Q4)(k:Int)(p0:dsOk (rci x.a)=true)(p1:dsOk (rci x.b)=true)(p2:dsOk (rci x.c)=true)(p3:dsOk (rci x.d)=true)(p4:Ci.all4 x.a x.b x.c x.d=true)(p5:badI k=false)(h:x.sws [k]=some y):Calls Tryz.prog 14 #[.agg ⟨x.C⟩,.int .i64 k] W (RetV (.tuple #[.agg ⟨y.C⟩,.int .i64 0]) W):=by
 refine Run.goP (S:=Z0) ((Pack.nil.k (.agg ⟨x.C⟩) x.C (.s (.agg (ks 0 64)))).k (.int .i64 k) [.int .i64 k] kb) Tryz.func14 rfl ?_
 refine Run.cV y.C (.tup [.agg (ks 0 64),.o (.c (.int .i64 0))]) (fun _ _ _ H=>reV (Q4.V_some h) (swsL x.a x.b x.c x.d [k] 1 ⟨[],H.b 2⟩ p0 p1 p2 p3 p4 (by simp) (any1 p5))) ?_
 exact Run.rV rfl
theorem swN(x:Q4)(k:Int)(p0:dsOk (rci x.a)=true)(p1:dsOk (rci x.b)=true)(p2:dsOk (rci x.c)=true)(p3:dsOk (rci x.d)=true)(p4:Ci.all4 x.a x.b x.c x.d=true)(p5:badI k=false)(h:x.sws [k]=none):Calls Tryz.prog 14 #[.agg ⟨x.C⟩,.int .i64 k] W (RetV (.tuple #[.agg ⟨Q4.z⟩,.int .i64 4]) W):=by
 refine Run.goP (S:=Z0) ((Pack.nil.k (.agg ⟨x.C⟩) x.C (.s (.agg (ks 0 64)))).k (.int .i64 k) [.int .i64 k] kb) Tryz.func14 rfl ?_
 refine Run.cV Q4.z (.tup [.agg (ks 0 64),.o (.c (.int .i64 4))]) (fun _ _ _ H=>reV (Q4.V_none h) (swsL x.a x.b x.c x.d [k] 1 ⟨[],H.b 2⟩ p0 p1 p2 p3 p4 (by simp) (any1 p5))) ?_
 exact Run.rV rfl
end Go.Proofs.YtcdbmjnipaochaaGreat
namespace Go.Proofs.YtcdbmjnipaochaaGreat
open Go.RowKit Rgn Eng
variable {S:Nat→Prop} {W:World}
theorem ixN:Calls Tryz.prog 217 #[.slice none 0 0,.func (.func 87) #[] #[]] W (RetV (.int .i64 (-1)) W):=by
 refine Run.goP (S:=Z0) ((Pack.nil.k (.slice none 0 0) [] (constSV (.slice none 0 0))).k (.func (.func 87) #[] #[]) [] (.s (.o (.fn 87 [])))) Tryz.func217 rfl ?_
 refine Run.lz 31 ?_
 exact Run.rV rfl
theorem cfN:Calls Tryz.prog 86 #[.slice none 0 0,.func (.func 87) #[] #[]] W (RetV (.bool false) W):=by
 refine Run.goP (S:=Z0) ((Pack.nil.k (.slice none 0 0) [] (constSV (.slice none 0 0))).k (.func (.func 87) #[] #[]) [] (.s (.o (.fn 87 [])))) Tryz.func86 rfl ?_
 refine Run.cV [] (.s (.o (.c (.int .i64 (-1))))) (fun _ _ _ H=>ixN) ?_
 exact Run.rV rfl
theorem swsN(d0 d1 d2 d3:Ci)(p0:dsOk (rci d0)=true)(p1:dsOk (rci d1)=true)(p2:dsOk (rci d2)=true)(p3:dsOk (rci d3)=true)(p4:Ci.all4 d0 d1 d2 d3=true):Calls Tryz.prog 15 #[.agg ⟨(Q4.mk d0 d1 d2 d3).C⟩,.slice none 0 0] W (RetV (.tuple #[.agg ⟨(Q4.mk d0 d1 d2 d3).C⟩,.int .i64 0]) W):=by
 have f0:=cifits_ht (dsOk_c p0).1
 have f1:=cifits_ht (dsOk_c p1).1
 have f2:=cifits_ht (dsOk_c p2).1
 have f3:=cifits_ht (dsOk_c p3).1
 refine Run.goP (S:=Z0) ((Pack.nil.k (.agg ⟨(Q4.mk d0 d1 d2 d3).C⟩) (Q4.mk d0 d1 d2 d3).C (.s (.agg (ks 0 64)))).k (.slice none 0 0) [] (constSV (.slice none 0 0))) Tryz.func15 rfl ?_
 refine Run.lz 31 ?_
 refine Run.cB (n:=4) (T:=147) (φs:=ringF [d0,d1,d2,d3]) (fun _ _ _ H=>frY d0 d1 d2 d3 p0 p1 p2 p3 p4) (fun cp=>?_)
 refine Run.cV [] (.s (.o (.c (.bool false)))) (fun _ _ _ H=>cfN) ?_
 refine Run.lz 31 ?_
 exact Run.rV rfl
end Go.Proofs.YtcdbmjnipaochaaGreat
namespace Go.Proofs.YtcdbmjnipaochaaGreat
open Go.RowKit Rgn
section
variable {w:World}
theorem eqi_step{P:Program}{d n i:Nat}{e:TypeId}{xs ys:Array Value}{is:List Nat}{a b:Value}{r r': Bool}(h1:(part e xs (i*n)).run P w=.ok a w)(h2:(part e ys (i*n)).run P w=.ok b w)(h3:(Op.equalIn d e a b).run P w=.ok r w)(h4:(Op.eqItems d e n xs ys is).run P w=.ok r' w):(Op.eqItems d e n xs ys (i::is)).run P w=.ok (r&&r') w:=by
 simp only [Op.eqItems,Sem.run_bind,h1,h2,h3,Result.andThen_ok]
 cases r
 ·simp
 ·simpa using h4
theorem eqi_nil{P:Program}{d n:Nat}{e:TypeId}{xs ys:Array Value}:(Op.eqItems d e n xs ys []).run P w=.ok true w:=by simp [Op.eqItems]
def d4C(r:RCi×RCi×RCi×RCi):List Value:=(rciC r.1).toList++(rciC r.2.1).toList++(rciC r.2.2.1).toList++(rciC r.2.2.2).toList
theorem eqin_d4(d:Nat)(r q:RCi×RCi×RCi×RCi):(Op.equalIn (d+6) 30 (.agg ⟨d4C r⟩) (.agg ⟨d4C q⟩)).run Tryz.prog w=.ok (decide (r=q)) w:=by
 obtain⟨i,hi⟩:=info_of_underlying Tryz.underlying29
 obtain⟨r0,r1,r2,r3⟩:=r
 obtain⟨q0,q1,q2,q3⟩:=q
 have e:decide ((r0,r1,r2,r3)=(q0,q1,q2,q3))=(decide (r0=q0)&&(decide (r1=q1)&&(decide (r2=q2)&&(decide (r3=q3)&&true)))):=by
  simp only [Prod.mk.injEq,Bool.and_true,Bool.decide_and]
 rw [e]
 rw [run_equalIn_array (P:=Tryz.prog) w (d+5) _ _ Tryz.underlying30 hi]
 have hc:Tryz.prog.cellsOf 29=16:=by kernel_rfl
 rw [hc]
 refine eqi_step (a:=rciV r0) (b:=rciV q0) (by go_simp;rfl) (by go_simp;rfl) (eqin_dk _ _ _) (eqi_step (a:=rciV r1) (b:=rciV q1) (by go_simp;rfl) (by go_simp;rfl) (eqin_dk _ _ _) (eqi_step (a:=rciV r2) (b:=rciV q2) (by go_simp;rfl) (by go_simp;rfl) (eqin_dk _ _ _) (eqi_step (a:=rciV r3) (b:=rciV q3) (by go_simp;rfl) (by go_simp;rfl) (eqin_dk _ _ _) eqi_nil)))
end
theorem ex_eql_d4{ρ:Operand→Value}{o:Oper}{w:World}{k:TypeId}(a b:Operand)(ho:o.op=.binOp .eql 30 a b k){r q:RCi×RCi×RCi×RCi}(ha:ρ a=.agg ⟨d4C r⟩)(hb:ρ b=.agg ⟨d4C q⟩){c:Bool}(hc:decide (r=q)=c):(execOp ρ o).run Tryz.prog w=.ok (.value (.bool (c))) w:=by
 subst hc
 unfold execOp
 simp only [ho,ha,hb,Sem.run_bind]
 rw [run_eqGuard_agg (P:=Tryz.prog) w .eql 30 a b ⟨d4C r⟩ ⟨d4C q⟩ (by kernel_rfl)]
 simp only [Result.andThen_ok,Sem.run_bind,run_eql_struct,eqin_d4 9994 r q]
 rfl
theorem ex_neq_d4{ρ:Operand→Value}{o:Oper}{w:World}{k:TypeId}(a b:Operand)(ho:o.op=.binOp .neq 30 a b k){r q:RCi×RCi×RCi×RCi}(ha:ρ a=.agg ⟨d4C r⟩)(hb:ρ b=.agg ⟨d4C q⟩){c:Bool}(hc:decide (r=q)=c):(execOp ρ o).run Tryz.prog w=.ok (.value (.bool (!c))) w:=by
 subst hc
 unfold execOp
 simp only [ho,ha,hb,Sem.run_bind]
 rw [run_eqGuard_agg (P:=Tryz.prog) w .neq 30 a b ⟨d4C r⟩ ⟨d4C q⟩ (by kernel_rfl)]
 simp only [Result.andThen_ok,Sem.run_bind,run_neq_struct,eqin_d4 9994 r q]
 rfl
end Go.Proofs.YtcdbmjnipaochaaGreat
namespace Go.Proofs.YtcdbmjnipaochaaGreat
def okL(l:List Int):Bool:=l.all fun x=>!(x != 0)
end Go.Proofs.YtcdbmjnipaochaaGreat
namespace Go.Proofs.YtcdbmjnipaochaaGreat
open Go.RowKit Rgn
section
variable {S:Nat→Prop} {W:World}
end
section
variable {ops:Array Oper} {a0:Act} {w0:World} {R0:Nat→Prop} {olds:List (Nat×Nat)} {F:List (Pl w0.heap.size R0 olds)→Prop} {k i:Nat} {rp:List (Nat×Pl w0.heap.size R0 olds)} {o:Oper}
theorem mag_one(w:World):Mag (w.alloc (.cells #[.int .u32 1] 315)) (.slice (some ⟨w.heap.size,0,none⟩) 1 1) 1:=by
 have h:=(Blk.alloc w [1]).all (cap:=1) (by intro x hx;simp at hx;subst hx;decide) (by decide) (by decide)
 refine⟨[1],by exact h,by simp [Canon],by simp [val]⟩
theorem Rgn.Go2.m1(ho:ops[i]? = some o)(rest:Go2 Tryz.prog ops a0 w0 F k (i+1) ((i,.op none (.val i [] (MagP 1)))::rp))(hop:o.op=.buildSlice 208 1 #[(0,.const (.int .u32 1))]:=by rfl)(hg:Gd2 ops a0 w0 rp i o:=by exact G0 rfl):Go2 Tryz.prog ops a0 w0 F (k+1) i rp :=
 Go2.gR ho [] hg rfl (fun {u w ρ} H=>by
  exact⟨_,_,ex_bs (P:=Tryz.prog) (e:=315) (sz:=1) [.int .u32 1] hop (by simp [H.c]) (by intro v hv;simp at hv;subst hv;rfl) rfl (by kernel_rfl) (by kernel_rfl) (by decide) (by decide) (by decide),mag_one w,RowKit.Below.alloc (RowKit.Below.refl _ _) (Nat.le_refl _) _⟩) rest
end
end Go.Proofs.YtcdbmjnipaochaaGreat
namespace Go.Proofs.YtcdbmjnipaochaaGreat
open Go.RowKit Rgn Eng
variable {S:Nat→Prop} {W:World}
theorem l20ok1{b0:Nat}(T0:TypeId)(a:Int)(B0:W.heap[b0]? = some (.cells (⟨[.int .i64 a]⟩) T0 (0,0))):Calls Tryz.prog 25 #[.slice (some ⟨b0,0,none⟩) 1 1] W (RetV (.bool (okL [a])) W):=by
 refine Run.goP (S:=Z0) (Pack.nil.b B0 (some 1) 1) Tryz.func25 rfl ?_
 refine Run.cV [.int .i64 a] kb (fun _ _ _ H=>l20num a) ?_
 refine Run.ic a 0 (a != 0) ?_
 refine (Bool.eq_false_or_eq_true (a != 0)).elim (fun c1=>?_) (fun c1=>?_)
 · refine Run.kn c1 ?_
   exact Run.rV (V' := .bool false) ((congrArg Value.bool (by simp only [okL,List.all_cons,List.all_nil,c1];rfl)))
 · refine Run.kn c1 ?_
   exact Run.rV (V' := .bool true) ((congrArg Value.bool (by simp only [okL,List.all_cons,List.all_nil,c1];rfl)))
theorem l20ok2{b0:Nat}(T0:TypeId)(a b:Int)(B0:W.heap[b0]? = some (.cells (⟨[.int .i64 a,.int .i64 b]⟩) T0 (0,0))):Calls Tryz.prog 25 #[.slice (some ⟨b0,0,none⟩) 2 2] W (RetV (.bool (okL [a,b])) W):=by
 refine Run.goP (S:=Z0) (Pack.nil.b B0 (some 2) 2) Tryz.func25 rfl ?_
 refine Run.cV [.int .i64 a] kb (fun _ _ _ H=>l20num a) ?_
 refine Run.ic a 0 (a != 0) ?_
 refine (Bool.eq_false_or_eq_true (a != 0)).elim (fun c1=>?_) (fun c1=>?_)
 · refine Run.kn c1 ?_
   exact Run.rV (V' := .bool false) ((congrArg Value.bool (by simp only [okL,List.all_cons,List.all_nil,c1];rfl)))
 · refine Run.kn c1 ?_
   refine Run.cV [.int .i64 b] kb (fun _ _ _ H=>l20num b) ?_
   refine Run.ic b 0 (b != 0) ?_
   refine (Bool.eq_false_or_eq_true (b != 0)).elim (fun c2=>?_) (fun c2=>?_)
   · refine Run.kn c2 ?_
     exact Run.rV (V' := .bool false) ((congrArg Value.bool (by simp only [okL,List.all_cons,List.all_nil,c1,c2];rfl)))
   · refine Run.kn c2 ?_
     exact Run.rV (V' := .bool true) ((congrArg Value.bool (by simp only [okL,List.all_cons,List.all_nil,c1,c2];rfl)))
end Go.Proofs.YtcdbmjnipaochaaGreat
namespace Go.Proofs.YtcdbmjnipaochaaGreat
open Go.RowKit Rgn Eng
variable {W:World}
abbrev Q4.r(x:Q4):RCi×RCi×RCi×RCi:=(rci x.a,rci x.b,rci x.c,rci x.d)
structure Q4.may (x:Q4):Prop where
 p0:dsOk (rci x.a)=true
 p1:dsOk (rci x.b)=true
 p2:dsOk (rci x.c)=true
 p3:dsOk (rci x.d)=true
 p4:Ci.all4 x.a x.b x.c x.d=true
theorem swsY{b1 n:Nat}(cap:Nat)(x y:Q4)(L:List Int)(hn:n=L.length)(hm:y.may)(h:y.sws L=some x)(h5:L.length≤4096)(h6:L.any badI=false)(B1:∃ r:List Value,W.heap[b1]? = some (.cells ⟨(intsC L).toList++r⟩ 3 (0,0))):Calls Tryz.prog 15 #[.agg ⟨y.C⟩,.slice (some ⟨b1,0,none⟩) n cap] W (RetV (.tuple #[.agg ⟨x.C⟩,.int .i64 0]) W):=by
 subst hn
 exact reV (Q4.V_some h) (swsL y.a y.b y.c y.d L cap B1 hm.p0 hm.p1 hm.p2 hm.p3 hm.p4 h5 h6)
theorem rdE(x y:Q4)(L:List Int)(hm:y.may)(h:y.sws L=some x)(h5:L.length≤4096)(h6:L.any badI=false)(capL cap n N r:Nat)(C0:Array Value)(hn:n=L.length):Run Tryz.prog Z0 W (x.C++y.C++[.int .i64 (-1)]) [] (bodyPost Tryz.prog Tryz.f27 (RetV (.bool true) W)) (stLp Tryz.f27 (r+1) 129 0 [(1,.s (.o (.p 0 0))),(3,.s (.o (.p 1 0))),(4,.s (.o (.ls 2 N (capL+N)))),(9,.s (.o (.ls 3 n (cap+n)))),(10,.s (.o (.k 128)))] [⟨30,ks 0 64,true,none,false⟩,⟨30,ks 64 64,true,none,false⟩,⟨3,[mkL ((capL+N)*1) C0],true,none,false⟩,⟨3,[mkL ((cap+n)*1) (intsC L)],true,none,false⟩]):=by
 refine Run.ik .geq (-1) 0 false (dF (by omega)) ?_
 refine Run.cV x.C (.tup [.agg (ks 0 64),.o (.c (.int .i64 0))]) (fun _ _ _ H=>swsY (cap+n) x y L hn hm h h5 h6 (H.bL 3)) ?_
 refine Run.cV [] (cb true) (fun _ _ _ H=>l20ok1 35 0 (H.b 5)) ?_
 refine Run.bi [] (cb true) (fun _ _ _ o1 o2 _ ho hx hy=>ex_eql_d4 o1 o2 ho (r:=x.r) (q:=x.r) hx hy (decide_eq_true rfl)) ?_
 exact Run.rV rfl
theorem rev_take{L:List Int}{m j:Nat}(h:m+j+1=L.length):(L.reverse.take m)++[L.getD j 0]=L.reverse.take (m+1):=by
 have e:L.reverse[m]? = some (L.getD j 0):=by
  rw [List.getElem?_reverse (by omega),List.getD_eq_getElem?_getD,show L.length-1-m=j by omega,List.getElem?_eq_getElem (by omega)];rfl
 rw [List.take_add_one,e];rfl
theorem rdL(x y:Q4)(L:List Int)(hm:y.may)(h:y.sws L.reverse=some x)(h5:L.length≤4096)(h6:L.any badI=false)(capL N:Nat)(hN:N=L.length)(j:Nat):∀ (cap n:Nat) (Z:List Int),0<n→n+j+1=L.length→Z=L.reverse.take n →
  Run Tryz.prog Z0 W (x.C++y.C++[.int .i64 (j:Nat)]) [] (bodyPost Tryz.prog Tryz.f27 (RetV (.bool true) W)) (stLp Tryz.f27 (j+2) 129 0 [(1,.s (.o (.p 0 0))),(3,.s (.o (.p 1 0))),(4,.s (.o (.ls 2 N (capL+N)))),(9,.s (.o (.ls 3 n (cap+n)))),(10,.s (.o (.k 128)))] [⟨30,ks 0 64,true,none,false⟩,⟨30,ks 64 64,true,none,false⟩,⟨3,[mkL ((capL+N)*1) (intsC L)],true,none,false⟩,⟨3,[mkL ((cap+n)*1) (intsC Z)],true,none,false⟩]):=by
 induction j with
 | zero =>
  intro cap n Z h1 h2 h3
  have hz:n=Z.length:=by rw [h3,List.length_take,List.length_reverse];omega
  have hr:Z++[L.getD 0 0]=L.reverse:=by rw [h3,rev_take (m:=n) (j:=0) h2,List.take_of_length_le (by rw [List.length_reverse];omega)]
  refine Run.ik .geq ((0:Nat):Int) 0 true (dT (by omega)) ?_
  refine Run.li 2 N (capL+N) 0 1 3 31 [.int .i64 (L.getD 0 0)] kb (intsC L) (by omega) (intsC_at (by omega)) ?_
  refine Run.al 31 3 n cap 4 (intsC Z) (intsC (Z++[L.getD 0 0])) [.int .i64 (L.getD 0 0)] 1 (by omega) (by rw [intsC_size,← hz]) (intsC_app Z _) (fun cq=>?_)
  refine Run.bi (op:=.sub) (t:=3) (a:=.int .i64 ((0:Nat):Int)) (c:=.int .i64 1) [.int .i64 (-1)] kb (fun w o ρ x y t' ho hx hy=>ex_isub (n:=((0:Nat):Int)) (u:=1) (by decide +kernel) ho hx hy) ?_
  refine Run.te 2 ?_
  exact Run.as (fun k=>if k=128 then 130 else k) id (rdE x y (Z++[L.getD 0 0]) hm (by rw [hr];exact h) (by rw [hr,List.length_reverse];exact h5) (by rw [hr,List.any_reverse];exact h6) capL cq (n+1) N 0 (intsC L) (by simp;omega)) (hc:=by kernel_rfl) (hk:=by kernel_rfl)
 | succ j ih =>
  intro cap n Z h1 h2 h3
  have hz:n=Z.length:=by rw [h3,List.length_take,List.length_reverse];omega
  have hr:Z++[L.getD (j+1) 0]=L.reverse.take (n+1):=by rw [h3,rev_take (by omega)]
  refine Run.ik .geq ((j+1:Nat):Int) 0 true (dT (by omega)) ?_
  refine Run.li 2 N (capL+N) (j+1) 1 3 31 [.int .i64 (L.getD (j+1) 0)] kb (intsC L) (by omega) (intsC_at (by omega)) ?_
  refine Run.al 31 3 n cap 4 (intsC Z) (intsC (Z++[L.getD (j+1) 0])) [.int .i64 (L.getD (j+1) 0)] 1 (by omega) (by rw [intsC_size,← hz]) (intsC_app Z _) (fun cq=>?_)
  refine Run.bi (op:=.sub) (t:=3) (a:=.int .i64 ((j+1:Nat):Int)) (c:=.int .i64 1) [.int .i64 (j:Nat)] kb (fun w o ρ x y t' ho hx hy=>ex_isub (wrap_62 (n:=((j+1:Nat):Int)-1) (by omega) (by omega)) ho hx hy |>.trans (by rw [show ((j+1:Nat):Int)-1=(j:Int) by omega])) ?_
  refine Run.te 2 ?_
  exact Run.as (fun k=>if k=128 then 130 else k) id (ih cq (n+1) (Z++[L.getD (j+1) 0]) (by omega) (by omega) hr) (hc:=by kernel_rfl) (hk:=by kernel_rfl)
theorem rdN(x y:Q4)(L:List Int)(hm:y.may)(h:y.sws L.reverse=some x)(h5:L.length≤4096)(h6:L.any badI=false)(capL N:Nat)(hN:N=L.length)(j:Nat)(hj:j+1=L.length):Run Tryz.prog Z0 W (x.C++y.C++[.int .i64 (j:Nat)]) [] (bodyPost Tryz.prog Tryz.f27 (RetV (.bool true) W)) (stLp Tryz.f27 (j+2) 129 0 [(1,.s (.o (.p 0 0))),(3,.s (.o (.p 1 0))),(4,.s (.o (.ls 2 N (capL+N)))),(9,constSV (.slice none 0 0)),(10,.s (.o (.k 128)))] [⟨30,ks 0 64,true,none,false⟩,⟨30,ks 64 64,true,none,false⟩,⟨3,[mkL ((capL+N)*1) (intsC L)],true,none,false⟩]):=by
 cases j with
 | zero =>
  have hr:[L.getD 0 0]=L.reverse:=(rev_take (L:=L) (m:=0) (j:=0) (by omega)).trans (List.take_of_length_le (by rw [List.length_reverse];omega))
  refine Run.ik .geq ((0:Nat):Int) 0 true (dT (by omega)) ?_
  refine Run.li 2 N (capL+N) (0) 1 3 31 [.int .i64 (L.getD (0) 0)] kb (intsC L) (by omega) (intsC_at (by omega)) ?_
  refine Run.a0 3 31 3 (fun cq=>?_)
  refine Run.hln 0 4 ((cq+1)*1) (intsC [L.getD (0) 0]) ?_
  refine Run.bi (op:=.sub) (t:=3) (a:=.int .i64 (0:Nat)) (c:=.int .i64 1) [.int .i64 (-1)] kb (fun w o ρ x y t' ho hx hy=>ex_isub (n:=((0:Nat):Int)) (u:=1) (by decide +kernel) ho hx hy) ?_
  refine Run.te 2 ?_
  exact Run.as (fun k=>if k=128 then 130 else k) (fun b=>if b=3 then 4 else b) (rdE x y [L.getD 0 0] hm (by rw [hr];exact h) (by simp) (by rw [hr,List.any_reverse];exact h6) capL cq 1 N 0 (intsC L) rfl) (hc:=by kernel_rfl) (hk:=by kernel_rfl)
 | succ j =>
  have hr:[L.getD (j+1) 0]=L.reverse.take 1:=rev_take (L:=L) (m:=0) (j:=j+1) (by omega)
  refine Run.ik .geq ((j+1:Nat):Int) 0 true (dT (by omega)) ?_
  refine Run.li 2 N (capL+N) (j+1) 1 3 31 [.int .i64 (L.getD (j+1) 0)] kb (intsC L) (by omega) (intsC_at (by omega)) ?_
  refine Run.a0 3 31 3 (fun cq=>?_)
  refine Run.hln 0 4 ((cq+1)*1) (intsC [L.getD (j+1) 0]) ?_
  refine Run.bi (op:=.sub) (t:=3) (a:=.int .i64 (j+1:Nat)) (c:=.int .i64 1) [.int .i64 (j:Nat)] kb (fun w o ρ x y t' ho hx hy=>ex_isub (wrap_62 (n:=((j+1:Nat):Int)-1) (by omega) (by omega)) ho hx hy |>.trans (by rw [show ((j+1:Nat):Int)-1=(j:Int) by omega])) ?_
  refine Run.te 2 ?_
  exact Run.as (fun k=>if k=128 then 130 else k) (fun b=>if b=3 then 4 else b) (rdL x y L hm h h5 h6 capL N hN j cq 1 [L.getD (j+1) 0] (by omega) (by omega) hr) (hc:=by kernel_rfl) (hk:=by kernel_rfl)
theorem rdA(x:Q4)(k:Int)(h2:k≠0∧k≠2∧k≠300)(hc:∀ w,Calls Tryz.prog 16 #[.agg ⟨x.C⟩] w (RetV (.tuple #[.agg ⟨Q4.z⟩,.slice none 0 0,.int .i64 k]) w)):Calls Tryz.prog 27 #[.agg ⟨x.C⟩] W (RetV (.bool true) W):=by
 have ho:okL [k]=false:=by unfold okL;simp [h2.1]
 refine Run.goP (S:=Z0) (Pack.nil.k (.agg ⟨x.C⟩) x.C (.s (.agg (ks 0 64)))) Tryz.func27 rfl ?_
 refine Run.cV [.int .i64 k] (.tup [.agg (Q4.z.map At.c),.o (.c (.slice none 0 0)),.o (.k 0)]) (fun _ _ _ H=>hc _) ?_
 refine Run.cV [] (cb false) (fun _ _ _ H=>l20ok1 35 k (H.b 2)) ?_ (hV:=fun _ _=>congrArg Value.bool ho)
 refine Run.lz 31 ?_
 refine Run.cV [.int .i64 k] kb (fun _ _ _ H=>l20num k) ?_
 refine Run.ik .neq k 2 true (show some (!decide (k=2))=some true by simp [h2.2.1]) ?_
 refine Run.cV [.int .i64 k] kb (fun _ _ _ H=>l20num k) ?_
 refine Run.ik .neq k 300 true (show some (!decide (k=300))=some true by simp [h2.2.2]) ?_
 exact Run.rV rfl
theorem rdB(x:Q4)(hm:x.may)(hc:∀ w,Calls Tryz.prog 16 #[.agg ⟨x.C⟩] w (RetV (.tuple #[.agg ⟨x.C⟩,.slice none 0 0,.int .i64 0]) w)):Calls Tryz.prog 27 #[.agg ⟨x.C⟩] W (RetV (.bool true) W):=by
 refine Run.goP (S:=Z0) (Pack.nil.k (.agg ⟨x.C⟩) x.C (.s (.agg (ks 0 64)))) Tryz.func27 rfl ?_
 refine Run.cV x.C (.tup [.agg (ks 0 64),.o (.c (.slice none 0 0)),.o (.c (.int .i64 0))]) (fun _ _ _ H=>hc _) ?_
 refine Run.cV [] (cb true) (fun _ _ _ H=>l20ok1 35 0 (H.b 2)) ?_
 refine Run.cV x.C (.tup [.agg (ks 0 64),.o (.c (.slice none 0 0)),.o (.c (.int .i64 0))]) (fun _ _ _ H=>hc _) ?_
 refine Run.cV [] (cb true) (fun _ _ _ H=>l20ok1 35 0 (H.b 4)) ?_
 refine Run.bi [] (cb false) (fun _ _ _ o1 o2 _ ho hx hy=>ex_neq_d4 o1 o2 ho (r:=x.r) (q:=x.r) hx hy (decide_eq_true rfl)) ?_
 refine Run.lz 31 ?_
 refine Run.lz 31 ?_
 refine Run.cV x.C (.tup [.agg (ks 0 64),.o (.c (.int .i64 0))]) (fun _ _ _ H=>swsN x.a x.b x.c x.d hm.p0 hm.p1 hm.p2 hm.p3 hm.p4) ?_
 refine Run.cV [] (cb true) (fun _ _ _ H=>l20ok1 35 0 (H.b 6)) ?_
 refine Run.bi [] (cb true) (fun _ _ _ o1 o2 _ ho hx hy=>ex_eql_d4 o1 o2 ho (r:=x.r) (q:=x.r) hx hy (decide_eq_true rfl)) ?_
 exact Run.rV rfl
theorem rdC(x y:Q4)(L:List Int)(hm:y.may)(h:y.sws L.reverse=some x)(h5:L.length≤4096)(h6:L.any badI=false)(j:Nat)(hj:j+1=L.length)(hc:∀ w,Calls Tryz.prog 16 #[.agg ⟨x.C⟩] w (RetL 3 1 (j+1) (intsC L) (fun s=>.tuple #[.agg ⟨y.C⟩,s,.int .i64 0]) w))(hd:∀ w,Calls Tryz.prog 16 #[.agg ⟨y.C⟩] w (RetV (.tuple #[.agg ⟨y.C⟩,.slice none 0 0,.int .i64 0]) w)):Calls Tryz.prog 27 #[.agg ⟨x.C⟩] W (RetV (.bool true) W):=by
 refine Run.goP (S:=Z0) (Pack.nil.k (.agg ⟨x.C⟩) x.C (.s (.agg (ks 0 64)))) Tryz.func27 rfl ?_
 refine Run.cL y.C (fun a=>.tup [.agg (ks 0 64),.o a,.o (.c (.int .i64 0))]) (fun _ _ _ H=>hc _) (fun capL=>?_)
 refine Run.cV [] (cb true) (fun _ _ _ H=>l20ok1 35 0 (H.b 3)) ?_
 refine Run.cV y.C (.tup [.agg (ks 0 64),.o (.c (.slice none 0 0)),.o (.c (.int .i64 0))]) (fun _ _ _ H=>hd _) ?_
 refine Run.cV [] (cb true) (fun _ _ _ H=>l20ok1 35 0 (H.b 5)) ?_
 refine Run.bi [] (cb false) (fun _ _ _ o1 o2 _ ho hx hy=>ex_neq_d4 o1 o2 ho (r:=y.r) (q:=y.r) hx hy (decide_eq_true rfl)) ?_
 refine Run.lz 31 ?_
 refine Run.ln (j+1) 31 ?_
 refine Run.bi (op:=.sub) (t:=3) (a:=.int .i64 ((j+1:Nat):Int)) (c:=.int .i64 1) [.int .i64 (j:Nat)] kb (fun w o ρ x y t' ho hx hy=>ex_isub (wrap_62 (n:=((j+1:Nat):Int)-1) (by omega) (by omega)) ho hx hy |>.trans (by rw [show ((j+1:Nat):Int)-1=(j:Int) by omega])) ?_
 refine Run.ee (j+2) ?_
 exact Run.as (fun k=>if k=128 then 193 else k) (fun b=>if b=1 then 2 else if b=2 then 1 else b) (rdN x y L hm h h5 h6 capL (j+1) hj j hj) (hc:=by kernel_rfl) (hk:=by kernel_rfl)
theorem q_pos{q:Rat}:0<q↔0<q.num:=by have:=Rat.lt_iff 0 q;simpa using this
theorem sgn_pos{q:Rat}:decide (q.num.sign≤0)=false↔0<q:=by
 rw [decide_eq_false_iff_not,q_pos]
 rcases Int.lt_trichotomy q.num 0 with h|h|h
 ·rw [Int.sign_eq_neg_one_of_neg h];omega
 ·rw [h];decide
 ·rw [Int.sign_eq_one_of_pos h];omega
theorem Q4.good.may{x:Q4}(h:x.good):x.may:=⟨dsOk_yes h.fa h.ok.aa,dsOk_yes h.fb h.ok.bb,dsOk_yes h.fc h.ok.cc,dsOk_yes h.fd h.ok.dd,h.ok.all⟩
theorem post_L{f:FuncId}{a:Array Value}{y:Q4}{i k:Int}{l:List Int}(h:Calls Tryz.prog f a W (RootPost (some (y,i::l),k) W)):Calls Tryz.prog f a W (RetL 3 1 (l.length+1) (intsC (i::l)) (fun s=>.tuple #[.agg ⟨y.C⟩,s,.int .i64 0]) W):=h
theorem post_0{f:FuncId}{a:Array Value}{y:Q4}{k:Int}(h:Calls Tryz.prog f a W (RootPost (some (y,[]),k) W)):Calls Tryz.prog f a W (RetV (.tuple #[.agg ⟨y.C⟩,.slice none 0 0,.int .i64 0]) W):=h
theorem post_n{f:FuncId}{a:Array Value}{k:Int}(h:Calls Tryz.prog f a W (RootPost (none,k) W)):Calls Tryz.prog f a W (RetV (.tuple #[.agg ⟨Q4.z⟩,.slice none 0 0,.int .i64 k]) W):=h
theorem rtG(x:Q4)(h:x.good):Calls Tryz.prog 16 #[.agg ⟨x.C⟩] W (RootPost (rootF (4096+1) x []) W) :=
 rtL x.a x.b x.c x.d h.may.p0 h.may.p1 h.may.p2 h.may.p3 h.may.p4 (sgn_pos.2 h.B)
theorem rdAll(x:Q4)(ho:x.ok)(fa:cifits (rci x.a)=true)(fb:cifits (rci x.b)=true)(fc:cifits (rci x.c)=true)(fd:cifits (rci x.d)=true)(hD:x.D):Calls Tryz.prog 27 #[.agg ⟨x.C⟩] W (RetV (.bool true) W):=by
 cases hs:decide ((((x.a.plus x.b).plus x.c).plus x.d).a.num.sign≤0) with
 | true=>exact rdA x 7 (by decide) (fun w=>rt7 x.a x.b x.c x.d (dsOk_yes fa ho.aa) (dsOk_yes fb ho.bb) (dsOk_yes fc ho.cc) (dsOk_yes fd ho.dd) ho.all hs)
 | false =>
  have hx:x.good:=⟨ho,fa,fb,fc,fd,hD,sgn_pos.1 hs⟩
  have hr:=fun w=>rtG (W:=w) x hx
  rcases e:rootF (4096+1) x [] with⟨o,k⟩
  rw [e] at hr
  cases o with
  | none=>exact rdA x k (by rcases root_err _ _ _ _ e (by simp) (by simp) with h|h<;>rw [h]<;>decide) (fun w=>post_n (hr w))
  | some u =>
   obtain⟨y,L⟩:=u
   obtain⟨M,e1,e2,e3,e4,e5,e6,e7⟩:=root_back _ _ _ _ _ _ hx e (by simp)
   rw [List.nil_append] at e1
   subst e1
   have hy:=fun w=>rtG (W:=w) y e2
   rw [root_root e3] at hy
   cases L with
   | nil =>
    have e6:y=x:=Option.some.inj e5
    exact rdB x hx.may (fun w=>post_0 (e6 ▸ hr w))
   | cons i l=>exact rdC x y (i::l) e2.may e5 e6 e4 l.length rfl (fun w=>post_L (hr w)) (fun w=>post_0 (hy w))
end Go.Proofs.YtcdbmjnipaochaaGreat
namespace Go.Proofs.YtcdbmjnipaochaaGreat
open Go.RowKit Rgn Eng
variable {S:Nat→Prop} {W:World}
theorem tcY{b0:Nat}(T0:TypeId)(d0 d1 d2 d3:Ci)(B0:W.heap[b0]? = some (.cells (⟨(ciC d0).toList++((ciC d1).toList++((ciC d2).toList++((ciC d3).toList)))⟩) T0 (0,0)))(p0:dsOk (rci d0)=true)(p1:dsOk (rci d1)=true)(p2:dsOk (rci d2)=true)(p3:dsOk (rci d3)=true)(p4:Ci.all4 d0 d1 d2 d3=true):Calls Tryz.prog 26 #[.slice (some ⟨b0,0,none⟩) 4 4] W (RetV (.tuple #[.bool true,.int .i64 0]) W):=by
 have f0:=cifits_ht (dsOk_c p0).1
 have f1:=cifits_ht (dsOk_c p1).1
 have f2:=cifits_ht (dsOk_c p2).1
 have f3:=cifits_ht (dsOk_c p3).1
 refine Run.goP (S:=Z0) (Pack.nil.b B0 (some 4) 64) Tryz.func26 rfl ?_
 refine Run.cB (n:=4) (T:=147) (φs:=ringF [d0,d1,d2,d3]) (fun _ _ _ H=>pl4Y T0 d0 d1 d2 d3 (H.b 0) p0 p1 p2 p3) (fun cp1=>?_)
 refine Run.cV [.bool ([d1.touch d0].all id&&[d2.touch d0,d2.touch d1].all id&&[d3.touch d0,d3.touch d1,d3.touch d2].all id)] kb (fun _ _ _ H=>tch4 cp1 d0 d1 d2 d3 (H.br 1) (RingP.mk (H.f 0) (H.f 1) (H.f 2) (H.f 3)) (RingP.mk (H.f 4) (H.f 5) (H.f 6) (H.f 7)) (RingP.mk (H.f 8) (H.f 9) (H.f 10) (H.f 11)) (RingP.mk (H.f 12) (H.f 13) (H.f 14) (H.f 15)) (by omega) (by omega) (by omega) (by omega) (by omega) (by omega)) ?_
 exact Run.rV ((congrArg (fun b=>Value.tuple #[.bool b,.int .i64 0]) p4))
end Go.Proofs.YtcdbmjnipaochaaGreat
namespace Go.Proofs.YtcdbmjnipaochaaGreat
open Go.RowKit Rgn Eng
theorem f4_ok{a b c:Ci}(h:Ci.f4b a b c=true):okL [Ci.f4E a b c]=false:=by unfold Ci.f4E;rw [if_pos h];rfl
end Go.Proofs.YtcdbmjnipaochaaGreat
namespace Go.Proofs.YtcdbmjnipaochaaGreat
open Go.RowKit Rgn Eng
variable {S:Nat→Prop} {W:World}
theorem lDr0(a b c:RCi)(n:Int)(p0:(lgK a||lgK b||lgK c)=true):Calls Tryz.prog 4 #[.agg ⟨(rciC a).toList++(rciC b).toList++(rciC c).toList++[.int .i64 n]⟩] W (RetV (.bool true) W):=by
 refine Run.goP (S:=Z0) (Pack.nil.k (.agg ⟨(rciC a).toList++(rciC b).toList++(rciC c).toList++[.int .i64 n]⟩) ((rciC a).toList++(rciC b).toList++(rciC c).toList++[.int .i64 n]) (.s (.agg (ks 0 49)))) Tryz.func4 rfl ?_
 refine Run.dr ?_
 refine RunD.en ?_
 refine Run.cV [.bool (lgK a||lgK b||lgK c)] kb (fun _ _ _ H=>l20far3 29 a b c (H.b 4)) ?_
 refine Run.kn p0 ?_
 refine Run.cV [] (cb true) (fun _ _ _ H=>l20works) ?_
 exact Run.rV rfl
theorem lDr1(a b c:RCi)(n:Int)(p0:(lgK a||lgK b||lgK c)=false)(p1:dsOk a=false):Calls Tryz.prog 4 #[.agg ⟨(rciC a).toList++(rciC b).toList++(rciC c).toList++[.int .i64 n]⟩] W (RetV (.bool true) W):=by
 refine Run.goP (S:=Z0) (Pack.nil.k (.agg ⟨(rciC a).toList++(rciC b).toList++(rciC c).toList++[.int .i64 n]⟩) ((rciC a).toList++(rciC b).toList++(rciC c).toList++[.int .i64 n]) (.s (.agg (ks 0 49)))) Tryz.func4 rfl ?_
 refine Run.dr ?_
 refine RunD.en ?_
 refine Run.cV [.bool (lgK a||lgK b||lgK c)] kb (fun _ _ _ H=>l20far3 29 a b c (H.b 4)) ?_
 refine Run.kn p0 ?_
 refine Run.cV ((rciC rzCi).toList++(rciC rzCi).toList) (.tup [.agg (ks 0 16),.agg (ks 16 16),.o (.c (.int .i64 2))]) (fun _ _ _ H=>fo0 a b c p1) ?_
 refine Run.cV [.bool (okL [2])] kb (fun _ _ _ H=>l20ok1 35 2 (H.b 7)) ?_
 refine Run.kn (b:=false) rfl ?_
 refine Run.bi [] (cb true) (fun _ _ _ o1 o2 _ ho hx hy=>ex_eql_dk (r:=rzCi) (q:=rzCi) o1 o2 ho hx hy (decide_eq_true rfl)) ?_
 refine Run.bi [] (cb true) (fun _ _ _ o1 o2 _ ho hx hy=>ex_eql_dk (r:=rzCi) (q:=rzCi) o1 o2 ho hx hy (decide_eq_true rfl)) ?_
 refine Run.cV [] (cb true) (fun _ _ _ H=>l20works) ?_
 exact Run.rV rfl
theorem lDr2(a:Ci)(b c:RCi)(n:Int)(p0:(lgK (rci a)||lgK b||lgK c)=false)(p1:dsOk (rci a)=true)(p2:dsOk b=false):Calls Tryz.prog 4 #[.agg ⟨(ciC a).toList++(rciC b).toList++(rciC c).toList++[.int .i64 n]⟩] W (RetV (.bool true) W):=by
 refine Run.goP (S:=Z0) (Pack.nil.k (.agg ⟨(ciC a).toList++(rciC b).toList++(rciC c).toList++[.int .i64 n]⟩) ((ciC a).toList++(rciC b).toList++(rciC c).toList++[.int .i64 n]) (.s (.agg (ks 0 49)))) Tryz.func4 rfl ?_
 refine Run.dr ?_
 refine RunD.en ?_
 refine Run.cV [.bool (lgK (rci a)||lgK b||lgK c)] kb (fun _ _ _ H=>l20far3 29 (rci a) b c (H.b 4)) ?_
 refine Run.kn p0 ?_
 refine Run.cV ((rciC rzCi).toList++(rciC rzCi).toList) (.tup [.agg (ks 0 16),.agg (ks 16 16),.o (.c (.int .i64 2))]) (fun _ _ _ H=>fo1 a b c p1 p2) ?_
 refine Run.cV [.bool (okL [2])] kb (fun _ _ _ H=>l20ok1 35 2 (H.b 7)) ?_
 refine Run.kn (b:=false) rfl ?_
 refine Run.bi [] (cb true) (fun _ _ _ o1 o2 _ ho hx hy=>ex_eql_dk (r:=rzCi) (q:=rzCi) o1 o2 ho hx hy (decide_eq_true rfl)) ?_
 refine Run.bi [] (cb true) (fun _ _ _ o1 o2 _ ho hx hy=>ex_eql_dk (r:=rzCi) (q:=rzCi) o1 o2 ho hx hy (decide_eq_true rfl)) ?_
 refine Run.cV [] (cb true) (fun _ _ _ H=>l20works) ?_
 exact Run.rV rfl
theorem lDr3(a b:Ci)(c:RCi)(n:Int)(p0:(lgK (rci a)||lgK (rci b)||lgK c)=false)(p1:dsOk (rci a)=true)(p2:dsOk (rci b)=true)(p3:dsOk c=false):Calls Tryz.prog 4 #[.agg ⟨(ciC a).toList++(ciC b).toList++(rciC c).toList++[.int .i64 n]⟩] W (RetV (.bool true) W):=by
 refine Run.goP (S:=Z0) (Pack.nil.k (.agg ⟨(ciC a).toList++(ciC b).toList++(rciC c).toList++[.int .i64 n]⟩) ((ciC a).toList++(ciC b).toList++(rciC c).toList++[.int .i64 n]) (.s (.agg (ks 0 49)))) Tryz.func4 rfl ?_
 refine Run.dr ?_
 refine RunD.en ?_
 refine Run.cV [.bool (lgK (rci a)||lgK (rci b)||lgK c)] kb (fun _ _ _ H=>l20far3 29 (rci a) (rci b) c (H.b 4)) ?_
 refine Run.kn p0 ?_
 refine Run.cV ((rciC rzCi).toList++(rciC rzCi).toList) (.tup [.agg (ks 0 16),.agg (ks 16 16),.o (.c (.int .i64 2))]) (fun _ _ _ H=>fo2 a b c p1 p2 p3) ?_
 refine Run.cV [.bool (okL [2])] kb (fun _ _ _ H=>l20ok1 35 2 (H.b 7)) ?_
 refine Run.kn (b:=false) rfl ?_
 refine Run.bi [] (cb true) (fun _ _ _ o1 o2 _ ho hx hy=>ex_eql_dk (r:=rzCi) (q:=rzCi) o1 o2 ho hx hy (decide_eq_true rfl)) ?_
 refine Run.bi [] (cb true) (fun _ _ _ o1 o2 _ ho hx hy=>ex_eql_dk (r:=rzCi) (q:=rzCi) o1 o2 ho hx hy (decide_eq_true rfl)) ?_
 refine Run.cV [] (cb true) (fun _ _ _ H=>l20works) ?_
 exact Run.rV rfl
theorem lDr4(a b c:Ci)(n:Int)(p0:(lgK (rci a)||lgK (rci b)||lgK (rci c))=false)(p1:dsOk (rci a)=true)(p2:dsOk (rci b)=true)(p3:dsOk (rci c)=true)(p4:Ci.all3 a b c=false):Calls Tryz.prog 4 #[.agg ⟨(ciC a).toList++(ciC b).toList++(ciC c).toList++[.int .i64 n]⟩] W (RetV (.bool true) W):=by
 have f0:=cifits_ht (dsOk_c p1).1
 have f1:=cifits_ht (dsOk_c p2).1
 have f2:=cifits_ht (dsOk_c p3).1
 refine Run.goP (S:=Z0) (Pack.nil.k (.agg ⟨(ciC a).toList++(ciC b).toList++(ciC c).toList++[.int .i64 n]⟩) ((ciC a).toList++(ciC b).toList++(ciC c).toList++[.int .i64 n]) (.s (.agg (ks 0 49)))) Tryz.func4 rfl ?_
 refine Run.dr ?_
 refine RunD.en ?_
 refine Run.cV [.bool (lgK (rci a)||lgK (rci b)||lgK (rci c))] kb (fun _ _ _ H=>l20far3 29 (rci a) (rci b) (rci c) (H.b 4)) ?_
 refine Run.kn p0 ?_
 refine Run.cV ((rciC rzCi).toList++(rciC rzCi).toList) (.tup [.agg (ks 0 16),.agg (ks 16 16),.o (.c (.int .i64 300))]) (fun _ _ _ H=>fo3 a b c p1 p2 p3 p4) ?_
 refine Run.cV [.bool (okL [300])] kb (fun _ _ _ H=>l20ok1 35 300 (H.b 7)) ?_
 refine Run.kn (b:=false) rfl ?_
 refine Run.bi [] (cb true) (fun _ _ _ o1 o2 _ ho hx hy=>ex_eql_dk (r:=rzCi) (q:=rzCi) o1 o2 ho hx hy (decide_eq_true rfl)) ?_
 refine Run.bi [] (cb true) (fun _ _ _ o1 o2 _ ho hx hy=>ex_eql_dk (r:=rzCi) (q:=rzCi) o1 o2 ho hx hy (decide_eq_true rfl)) ?_
 refine Run.cV [] (cb true) (fun _ _ _ H=>l20works) ?_
 exact Run.rV rfl
theorem lDr6(a b c:Ci)(n:Int)(p0:(lgK (rci a)||lgK (rci b)||lgK (rci c))=false)(p1:dsOk (rci a)=true)(p2:dsOk (rci b)=true)(p3:dsOk (rci c)=true)(p4:Ci.all3 a b c=true)(p5:cifits (rci (Ci.f4p a b c))=false):Calls Tryz.prog 4 #[.agg ⟨(ciC a).toList++(ciC b).toList++(ciC c).toList++[.int .i64 n]⟩] W (RetV (.bool true) W):=by
 have f0:=cifits_ht (dsOk_c p1).1
 have f1:=cifits_ht (dsOk_c p2).1
 have f2:=cifits_ht (dsOk_c p3).1
 refine Run.goP (S:=Z0) (Pack.nil.k (.agg ⟨(ciC a).toList++(ciC b).toList++(ciC c).toList++[.int .i64 n]⟩) ((ciC a).toList++(ciC b).toList++(ciC c).toList++[.int .i64 n]) (.s (.agg (ks 0 49)))) Tryz.func4 rfl ?_
 refine Run.dr ?_
 refine RunD.en ?_
 refine Run.cV [.bool (lgK (rci a)||lgK (rci b)||lgK (rci c))] kb (fun _ _ _ H=>l20far3 29 (rci a) (rci b) (rci c) (H.b 4)) ?_
 refine Run.kn p0 ?_
 refine Run.cV ((rciC (Ci.f4P a b c)).toList++(rciC (Ci.f4Q a b c)).toList++[.int .i64 (Ci.f4E a b c)]) (.tup [.agg (ks 0 16),.agg (ks 16 16),.o (.k 32)]) (fun _ _ _ H=>fo4 a b c p1 p2 p3 p4) ?_
 refine Run.cV [.bool (okL [(Ci.f4E a b c)])] kb (fun _ _ _ H=>l20ok1 35 (Ci.f4E a b c) (H.b 7)) ?_
 refine Run.kn (f4_ok (f4_n6 p5)) ?_
 refine Run.bi [] (cb true) (fun _ _ _ o1 o2 _ ho hx hy=>ex_eql_dk (r:=Ci.f4P a b c) (q:=rzCi) o1 o2 ho hx hy (f4_zP (f4_n6 p5))) ?_
 refine Run.bi [] (cb true) (fun _ _ _ o1 o2 _ ho hx hy=>ex_eql_dk (r:=Ci.f4Q a b c) (q:=rzCi) o1 o2 ho hx hy (f4_zQ (f4_n6 p5))) ?_
 refine Run.cV [] (cb true) (fun _ _ _ H=>l20works) ?_
 exact Run.rV rfl
theorem lDr7(a b c:Ci)(n:Int)(p0:(lgK (rci a)||lgK (rci b)||lgK (rci c))=false)(p1:dsOk (rci a)=true)(p2:dsOk (rci b)=true)(p3:dsOk (rci c)=true)(p4:Ci.all3 a b c=true)(p5:cifits (rci (Ci.f4p a b c))=true)(p6:cifits (rci (Ci.f4q a b c))=false):Calls Tryz.prog 4 #[.agg ⟨(ciC a).toList++(ciC b).toList++(ciC c).toList++[.int .i64 n]⟩] W (RetV (.bool true) W):=by
 have f0:=cifits_ht (dsOk_c p1).1
 have f1:=cifits_ht (dsOk_c p2).1
 have f2:=cifits_ht (dsOk_c p3).1
 refine Run.goP (S:=Z0) (Pack.nil.k (.agg ⟨(ciC a).toList++(ciC b).toList++(ciC c).toList++[.int .i64 n]⟩) ((ciC a).toList++(ciC b).toList++(ciC c).toList++[.int .i64 n]) (.s (.agg (ks 0 49)))) Tryz.func4 rfl ?_
 refine Run.dr ?_
 refine RunD.en ?_
 refine Run.cV [.bool (lgK (rci a)||lgK (rci b)||lgK (rci c))] kb (fun _ _ _ H=>l20far3 29 (rci a) (rci b) (rci c) (H.b 4)) ?_
 refine Run.kn p0 ?_
 refine Run.cV ((rciC (Ci.f4P a b c)).toList++(rciC (Ci.f4Q a b c)).toList++[.int .i64 (Ci.f4E a b c)]) (.tup [.agg (ks 0 16),.agg (ks 16 16),.o (.k 32)]) (fun _ _ _ H=>fo4 a b c p1 p2 p3 p4) ?_
 refine Run.cV [.bool (okL [(Ci.f4E a b c)])] kb (fun _ _ _ H=>l20ok1 35 (Ci.f4E a b c) (H.b 7)) ?_
 refine Run.kn (f4_ok (f4_n7 p5 p6)) ?_
 refine Run.bi [] (cb true) (fun _ _ _ o1 o2 _ ho hx hy=>ex_eql_dk (r:=Ci.f4P a b c) (q:=rzCi) o1 o2 ho hx hy (f4_zP (f4_n7 p5 p6))) ?_
 refine Run.bi [] (cb true) (fun _ _ _ o1 o2 _ ho hx hy=>ex_eql_dk (r:=Ci.f4Q a b c) (q:=rzCi) o1 o2 ho hx hy (f4_zQ (f4_n7 p5 p6))) ?_
 refine Run.cV [] (cb true) (fun _ _ _ H=>l20works) ?_
 exact Run.rV rfl
end Go.Proofs.YtcdbmjnipaochaaGreat
namespace Go.Proofs.YtcdbmjnipaochaaGreat
open Go.RowKit Rgn Eng
theorem ok3_of{a b c:Ci}(p1:dsOk (rci a)=true)(p2:dsOk (rci b)=true)(p3:dsOk (rci c)=true)(h:Ci.all3 a b c=true):Ci.ok3 a b c:=by
 unfold Ci.all3 at h
 simp only [List.all_cons,List.all_nil,id,Bool.and_true,Bool.and_eq_true] at h
 obtain⟨t1,t2,t3⟩:=h
 exact⟨(dsOk_c p1).2,(dsOk_c p2).2,(dsOk_c p3).2,(dot_comm _ _).trans (touch_dot t1),(dot_comm _ _).trans (touch_dot t2),(dot_comm _ _).trans (touch_dot t3)⟩
structure RuF (a b c p q:Ci):Prop where
 okp:Q4.ok ⟨a,b,c,p⟩
 okq:Q4.ok ⟨a,b,c,q⟩
 D:Q4.D ⟨a,b,c,p⟩
 ne:p≠q
 sw:Ci.swp a b c p p=q
 bp:ruB a b c p=true
 mp:ruM a b c p=true
 xp:ruX a b c p=true
 bq:ruB a b c q=true
 mq:ruM a b c q=true
 xq:ruX a b c q=true
theorem ruF{a b c:Ci}(h:Ci.ok3 a b c):RuF a b c (Ci.f4p a b c) (Ci.f4q a b c):=by
 obtain⟨t,ht,e1,e2⟩:=f4_yy a b c
 have h2:-t*-t=1:=by grind
 rw [e1,e2]
 exact⟨yy_ok h ht,yy_ok h h2,yy_D h ht,yy_ne2 h ht,yy_swp a b c t,yy_B h ht,yy_M h ht,yy_X h ht,yy_B h h2,yy_M h h2,yy_X h h2⟩
def plc(n:Int):Int:=(n.tmod 4+4).tmod 4
theorem plc_ok(n:Int):badI (plc n)=false:=by
 have h1:=Int.tmod_lt_of_pos n (show (0:Int)<4 by decide)
 have h2:-4<n.tmod 4:=by
  have:=Int.tmod_lt_of_pos (-n) (show (0:Int)<4 by decide)
  rw [Int.neg_tmod] at this;omega
 unfold plc badI
 have h3:(n.tmod 4+4).tmod 4=(n.tmod 4+4)%4:=Int.tmod_eq_emod_of_nonneg (by omega)
 rw [h3,Bool.or_eq_false_iff]
 exact⟨decide_eq_false (by omega),decide_eq_false (by omega)⟩
theorem sws1(x:Q4)(k:Int):x.sws [k]=if cifits (rci ((x.sw k).at k))=true then some (x.sw k) else none:=rfl
end Go.Proofs.YtcdbmjnipaochaaGreat
namespace Go.Proofs.YtcdbmjnipaochaaGreat.Eng
open Go.RowKit Rgn
section
variable {P:Program} {A S:Nat→Prop} {W:World} {κ κs:List Value} {Φ:List VP} {Q:Exit→Act→World→Prop} {m:MS}
def ixOf(fr:List (Option SV))(o:Oper):Option (TypeId×SV×SV) :=
 match o.op with
 | .index T x y=>match eoF fr x,eoF fr y with
  | some v,some u=>some (T,v,u)
  | _,_=>none
 | _=>none
theorem ex_index{T TE:TypeId}{n sz i:Nat}{cs:List Value}{ρ:Operand→Value}{o:Oper}{w:World}{x y:Operand}(hu:arrE P T=some (n,TE))(hag:aggB P TE=true)(hsz:szOf P TE=some sz)(hi:i<n)(ho:o.op=.index T x y)(hx:ρ x=.agg ⟨cs⟩)(hy:ρ y=.int .i64 i):(execOp ρ o).run P w=.ok (.value (.agg ⟨(cs.drop (i*sz)).take sz⟩)) w:=by
 have hu' : P.underlying T=some (.array n TE):=by
  unfold arrE at hu
  split at hu
  ·rename_i h;cases hu;exact h
  ·cases hu
 obtain⟨d,h1,h2⟩:=aggB_ex hag
 cases hq:P.info? TE with
 | none=>simp [szOf,hq] at hsz
 | some q =>
  have hs:q.size=sz:=by simpa [szOf,hq] using hsz
  have hn:(0:Int)≤(i:Int)∧(i:Int)<(n:Int):=by omega
  have hp:(part TE ⟨cs⟩ (i*sz)).run P w=.ok (.agg ⟨(cs.drop (i*sz)).take sz⟩) w:=by
   cases d<;>first|(cases h2;done)|(simp [part,isAgg,run_underlying h1,sizeOf,typeInfo,hq,hs,List.extract_eq_take_drop])
  unfold execOp
  simp [ho,hx,hy,Instr.index,run_underlying hu', asIntOf,hi,sizeOf,typeInfo,hq,hs,hp,Result.andThen]
theorem Run.ix(T TE:TypeId)(n i sz:Nat)(cs es:List Value)(sh:SV)(hi:i<n)(hes:(cs.drop (i*sz)).take sz=es)(rest:Run P S W (κ++es) (Φ++[]) Q (aft (runM P far m) sh sh.nk 0))(hu:arrE P T=some (n,TE):=by kernel_rfl)(hag:aggB P TE=true:=by kernel_rfl)(hsz:szOf P TE=some sz:=by kernel_rfl)(ha:∀ β ℓ,((opOf (runM P far m)).bind (ixOf (runM P far m).fr)).map (fun q=>(q.1,q.2.1.d ⟨β,κ,ℓ⟩,q.2.2.d ⟨β,κ,ℓ⟩))=some (T,.agg ⟨cs⟩,.int .i64 i):=by intro β ℓ;kernel_rfl)(hV:∀ β ℓ,Value.agg ⟨es⟩=sh.d ⟨β,es,ℓ⟩:=by intro β ℓ;kernel_rfl)(h1:es.all (·.oneCell')=true:=by kernel_rfl)(hf:fitB (runM P far m) κ Φ=true:=by kernel_rfl)(hn:Nat.beq sh.nk es.length=true:=by kernel_rfl):Run P S W κ Φ Q m:=by
 refine Run.va (V:=.agg ⟨es⟩) es sh (a:=fun o β ℓ ρ=>∃ x y,o.op=.index T x y∧ρ x=.agg ⟨cs⟩∧ρ y=.int .i64 i) (fun {A} β ℓ w o ρ I hp=>?_) rest (fun β ℓ a A=>?_) hV h1 hf hn
 ·obtain⟨x,y,hop,hx,hy⟩:=hp
  rw [← hes]
  exact ex_index hu hag hsz hi hop hx hy
 ·have ha:=ha β ℓ
  cases ho:opOf (runM P far m) with
  | none=>rw [ho] at ha;cases ha
  | some o =>
   rw [ho] at ha
   refine⟨o,rfl,?_⟩
   have ha:(ixOf (runM P far m).fr o).map _=some _:=ha
   unfold ixOf at ha
   split at ha
   ·rename_i T' x y hop
    split at ha
    ·rename_i v u hx hy
     simp only [Option.map_some,Option.some.injEq,Prod.mk.injEq] at ha
     obtain⟨rfl,e1,e2⟩:=ha
     exact⟨x,y,hop,(eval_eo A x v hx).trans e1,(eval_eo A y u hy).trans e2⟩
    ·cases ha
   ·cases ha
end
end Go.Proofs.YtcdbmjnipaochaaGreat.Eng
namespace Go.Proofs.YtcdbmjnipaochaaGreat
open Go.RowKit Rgn Eng
variable {W:World}
theorem wrap_s{r:Int}(h:-4<r)(h1:r<8):IntKind.wrap .i64 r=r:=by
 have:r=-3∨r=-2∨r=-1∨r=0∨r=1∨r=2∨r=3∨r=4∨r=5∨r=6∨r=7:=by omega
 rcases this with h|h|h|h|h|h|h|h|h|h|h<;>subst h<;>decide +kernel
theorem tm_b(n:Int):-4<n.tmod 4∧n.tmod 4<4:=by
 have h1:=Int.tmod_lt_of_pos n (show (0:Int)<4 by decide)
 have:=Int.tmod_lt_of_pos (-n) (show (0:Int)<4 by decide)
 rw [Int.neg_tmod] at this
 exact⟨by omega,h1⟩
theorem at_fits(x:Q4)(i:Int)(fa:cifits (rci x.a)=true)(fb:cifits (rci x.b)=true)(fc:cifits (rci x.c)=true)(fd:cifits (rci x.d)=true):cifits (rci (x.at i))=true:=by
 unfold Q4.at;split
 ·exact fa
 ·split
  ·exact fb
  ·split
   ·exact fc
   ·exact fd
theorem sw_fits(x:Q4){i:Int}(hi:badI i=false)(fa:cifits (rci x.a)=true)(fb:cifits (rci x.b)=true)(fc:cifits (rci x.c)=true)(fd:cifits (rci x.d)=true)(h:cifits (rci ((x.sw i).at i))=true):cifits (rci (x.sw i).a)=true∧cifits (rci (x.sw i).b)=true∧cifits (rci (x.sw i).c)=true∧cifits (rci (x.sw i).d)=true:=by
 rcases bad4 hi with e|e|e|e<;>subst e
 ·rw [sw_0] at h ⊢;exact⟨h,fb,fc,fd⟩
 ·rw [sw_1] at h ⊢;exact⟨fa,h,fc,fd⟩
 ·rw [sw_2] at h ⊢;exact⟨fa,fb,h,fd⟩
 ·rw [sw_3] at h ⊢;exact⟨fa,fb,fc,h⟩
theorem foY(a b c:Ci)(p1:dsOk (rci a)=true)(p2:dsOk (rci b)=true)(p3:dsOk (rci c)=true)(p4:Ci.all3 a b c=true)(p5:cifits (rci (Ci.f4p a b c))=true)(p6:cifits (rci (Ci.f4q a b c))=true):Calls Tryz.prog 24 #[ciV a,ciV b,ciV c] W (RetV (.tuple #[ciV (Ci.f4p a b c),ciV (Ci.f4q a b c),.int .i64 0]) W):=by
 have e1:Ci.f4P a b c=rci (Ci.f4p a b c):=of_decide_eq_true (f4_P p5 p6)
 have e2:Ci.f4Q a b c=rci (Ci.f4q a b c):=of_decide_eq_true (f4_Q p5 p6)
 have e3:Ci.f4E a b c=0:=eq_of_beq (f4_0 p5 p6)
 have h:=fo4 (W:=W) a b c p1 p2 p3 p4
 rw [e1,e2,e3] at h
 exact h
theorem lDr5(a b c p q:Ci)(n:Int)(hp:p=Ci.f4p a b c)(hq:q=Ci.f4q a b c)(F:RuF a b c p q)(p0:(lgK (rci a)||lgK (rci b)||lgK (rci c))=false)(p1:dsOk (rci a)=true)(p2:dsOk (rci b)=true)(p3:dsOk (rci c)=true)(p4:Ci.all3 a b c=true)(p5:cifits (rci p)=true)(p6:cifits (rci q)=true):Calls Tryz.prog 4 #[.agg ⟨(ciC a).toList++(ciC b).toList++(ciC c).toList++[.int .i64 n]⟩] W (RetV (.bool true) W):=by
 have op:dsOk (rci p)=true:=dsOk_yes p5 F.okp.dd
 have oq:dsOk (rci q)=true:=dsOk_yes p6 F.okq.dd
 have ne:decide (rci p=rci q)=false:=decide_eq_false fun e=>F.ne (rci_inj e)
 have hm:Q4.may ⟨a,b,c,p⟩:=⟨p1,p2,p3,op,F.okp.all⟩
 have h3:(Q4.mk a b c p).sws [3]=some ⟨a,b,c,q⟩:=by rw [sws1,sw_3,F.sw];exact if_pos p6
 have hfo:∀ w,Calls Tryz.prog 24 #[ciV a,ciV b,ciV c] w (RetV (.tuple #[ciV p,ciV q,.int .i64 0]) w):=fun w=>by subst hp;subst hq;exact foY a b c p1 p2 p3 p4 p5 p6
 have w1:=tm_b n
 have hk:=plc_ok n
 refine Run.goP (S:=Z0) (Pack.nil.k (.agg ⟨(ciC a).toList++(ciC b).toList++(ciC c).toList++[.int .i64 n]⟩) ((ciC a).toList++(ciC b).toList++(ciC c).toList++[.int .i64 n]) (.s (.agg (ks 0 49)))) Tryz.func4 rfl ?_
 refine Run.dr ?_
 refine RunD.en ?_
 refine Run.cV [.bool (lgK (rci a)||lgK (rci b)||lgK (rci c))] kb (fun _ _ _ H=>l20far3 29 (rci a) (rci b) (rci c) (H.b 4)) ?_
 refine Run.kn p0 ?_
 refine Run.cV ((ciC p).toList++(ciC q).toList) (.tup [.agg (ks 0 16),.agg (ks 16 16),.o (.c (.int .i64 0))]) (fun _ _ _ H=>hfo _) ?_
 refine Run.cV [] (cb true) (fun _ _ _ H=>l20ok1 35 0 (H.b 7)) ?_
 refine Run.bi [] (cb false) (fun _ _ _ o1 o2 _ ho hx hy=>ex_eql_dk (r:=rci p) (q:=rci q) o1 o2 ho hx hy ne) ?_
 refine Run.ix 58 29 2 0 16 ((ciC p).toList++(ciC q).toList) (ciC p).toList (.s (.agg (ks 0 16))) (by decide) (by kernel_rfl) ?_
 refine Run.cV [] (.tup [.o (.c (.bool true)),.o (.c (.int .i64 0))]) (fun _ _ _ H=>tcY 30 a b c p (H.b 9) p1 p2 p3 op F.okp.all) ?_
 refine Run.cV [] (.tup [.o (.c (.bool true)),.o (.c (.bool true)),.o (.c (.bool true)),.o (.c (.int .i64 0))]) (fun _ _ _ H=>reV (by rw [F.bp,F.mp,F.xp]) (ruT a b c p p1 p2 p3 op)) ?_
 refine Run.cV [] (cb true) (fun _ _ _ H=>l20ok2 35 0 0 (H.b 10)) ?_
 refine Run.ix 58 29 2 1 16 ((ciC p).toList++(ciC q).toList) (ciC q).toList (.s (.agg (ks 0 16))) (by decide) (by kernel_rfl) ?_
 refine Run.cV [] (.tup [.o (.c (.bool true)),.o (.c (.int .i64 0))]) (fun _ _ _ H=>tcY 30 a b c q (H.b 12) p1 p2 p3 oq F.okq.all) ?_
 refine Run.cV [] (.tup [.o (.c (.bool true)),.o (.c (.bool true)),.o (.c (.bool true)),.o (.c (.int .i64 0))]) (fun _ _ _ H=>reV (by rw [F.bq,F.mq,F.xq]) (ruT a b c q p1 p2 p3 oq)) ?_
 refine Run.cV [] (cb true) (fun _ _ _ H=>l20ok2 35 0 0 (H.b 13)) ?_
 refine Run.cV (Q4.mk a b c q).C (.tup [.agg (ks 0 64),.o (.c (.int .i64 0))]) (fun _ _ _ H=>swY ⟨a,b,c,p⟩ ⟨a,b,c,q⟩ 3 p1 p2 p3 op F.okp.all rfl h3) ?_
 refine Run.cV [] (cb true) (fun _ _ _ H=>l20ok1 35 0 (H.b 16)) ?_
 refine Run.bi [] (cb false) (fun _ _ _ o1 o2 _ ho hx hy=>ex_neq_dk (r:=rci q) (q:=rci q) o1 o2 ho hx hy (decide_eq_true rfl)) ?_
 refine Run.bi [] (cb false) (fun _ _ _ o1 o2 _ ho hx hy=>ex_neq_dk (r:=rci a) (q:=rci a) o1 o2 ho hx hy (decide_eq_true rfl)) ?_
 refine Run.bi [] (cb false) (fun _ _ _ o1 o2 _ ho hx hy=>ex_neq_dk (r:=rci b) (q:=rci b) o1 o2 ho hx hy (decide_eq_true rfl)) ?_
 refine Run.bi [] (cb false) (fun _ _ _ o1 o2 _ ho hx hy=>ex_neq_dk (r:=rci c) (q:=rci c) o1 o2 ho hx hy (decide_eq_true rfl)) ?_
 refine Run.bi (op:=.rem) (t:=3) (a:=.int .i64 n) (c:=.int .i64 4) [.int .i64 (n.tmod 4)] kb (fun w o ρ x y t' ho hx hy=>ex_irem (by decide) (wrap_s w1.1 (by omega)) ho hx hy) ?_
 refine Run.bi (op:=.add) (t:=3) (a:=.int .i64 (n.tmod 4)) (c:=.int .i64 4) [.int .i64 (n.tmod 4+4)] kb (fun w o ρ x y t' ho hx hy=>ex_iadd (wrap_s (by omega) (by omega)) ho hx hy) ?_
 refine Run.bi (op:=.rem) (t:=3) (a:=.int .i64 (n.tmod 4+4)) (c:=.int .i64 4) [.int .i64 (plc n)] kb (fun w o ρ x y t' ho hx hy=>ex_irem (by decide) (wrap_s (tm_b (n.tmod 4+4)).1 (by have:=(tm_b (n.tmod 4+4)).2;omega)) ho hx hy) ?_
 refine (Bool.eq_false_or_eq_true (cifits (rci (((Q4.mk a b c p).sw (plc n)).at (plc n))))).elim (fun hs=>?_) (fun hs=>?_)
 · obtain⟨x,hx⟩:∃ x,x=(Q4.mk a b c p).sw (plc n):=⟨_,rfl⟩
   have h4:(Q4.mk a b c p).sws [plc n]=some x:=by rw [sws1,if_pos hs,hx]
   have oX:x.ok:=by rw [hx];exact F.okp.sw hk
   have fX:=sw_fits ⟨a,b,c,p⟩ hk (dsOk_c p1).1 (dsOk_c p2).1 (dsOk_c p3).1 p5 hs
   rw [← hx] at fX
   have oA:dsOk (rci x.a)=true:=dsOk_yes fX.1 oX.aa
   have oB:dsOk (rci x.b)=true:=dsOk_yes fX.2.1 oX.bb
   have oC:dsOk (rci x.c)=true:=dsOk_yes fX.2.2.1 oX.cc
   have oD:dsOk (rci x.d)=true:=dsOk_yes fX.2.2.2 oX.dd
   have h6:x.sw (plc n)=⟨a,b,c,p⟩:=by rw [hx];exact Q4.sw_sw _ hk
   have h5:x.sws [plc n]=some ⟨a,b,c,p⟩:=by rw [sws1,h6];exact if_pos (at_fits ⟨a,b,c,p⟩ (plc n) (dsOk_c p1).1 (dsOk_c p2).1 (dsOk_c p3).1 p5)
   refine Run.cV x.C (.tup [.agg (ks 0 64),.o (.c (.int .i64 0))]) (fun _ _ _ H=>swY ⟨a,b,c,p⟩ x (plc n) p1 p2 p3 op F.okp.all hk h4) ?_
   refine Run.cV [] (cb true) (fun _ _ _ H=>l20ok1 35 0 (H.b 18)) ?_
   refine Run.cV [] (.tup [.o (.c (.bool true)),.o (.c (.int .i64 0))]) (fun _ _ _ H=>tcY 30 x.a x.b x.c x.d (H.b 17) oA oB oC oD oX.all) ?_
   refine Run.cV (Q4.mk a b c p).C (.tup [.agg (ks 0 64),.o (.c (.int .i64 0))]) (fun _ _ _ H=>swY x ⟨a,b,c,p⟩ (plc n) oA oB oC oD oX.all hk h5) ?_
   refine Run.cV [] (cb true) (fun _ _ _ H=>l20ok2 35 0 0 (H.b 20)) ?_
   refine Run.bi [] (cb false) (fun _ _ _ o1 o2 _ ho hx hy=>ex_neq_d4 o1 o2 ho (r:=(Q4.mk a b c p).r) (q:=(Q4.mk a b c p).r) hx hy (decide_eq_true rfl)) ?_
   refine Run.cV [] (cb true) (fun _ _ _ H=>rdAll ⟨a,b,c,p⟩ F.okp (dsOk_c p1).1 (dsOk_c p2).1 (dsOk_c p3).1 p5 F.D) ?_
   refine Run.cV [] (cb true) (fun _ _ _ H=>l20works) ?_
   exact Run.rV rfl
 · have h4:(Q4.mk a b c p).sws [plc n]=none:=by rw [sws1,hs];rfl
   refine Run.cV Q4.z (.tup [.agg (ks 0 64),.o (.c (.int .i64 4))]) (fun _ _ _ H=>swN ⟨a,b,c,p⟩ (plc n) p1 p2 p3 op F.okp.all hk h4) ?_
   refine Run.cV [] (cb false) (fun _ _ _ H=>l20ok1 35 4 (H.b 18)) ?_
   refine Run.cV [] (cb true) (fun _ _ _ H=>rdAll ⟨a,b,c,p⟩ F.okp (dsOk_c p1).1 (dsOk_c p2).1 (dsOk_c p3).1 p5 F.D) ?_
   refine Run.cV [] (cb true) (fun _ _ _ H=>l20works) ?_
   exact Run.rV rfl
end Go.Proofs.YtcdbmjnipaochaaGreat
namespace Go.Proofs.YtcdbmjnipaochaaGreat
open Go.ChangeShapes Go.WideShapes Go.ChangeAt Go.RowKit
theorem list2{cs:List Value}(h:cs.length=2):∃ a b,cs=[a,b]:=by
 match cs,h with
 | [a,b],_=>exact⟨a,b,rfl⟩
theorem list4{cs:List Value}(h:cs.length=4):∃ a b c d,cs=[a,b,c,d]:=by
 match cs,h with
 | [a,b,c,d],_=>exact⟨a,b,c,d,rfl⟩
theorem list8{cs:List Value}(h:cs.length=8):∃ a b c d e f g i,cs=[a,b,c,d,e,f,g,i]:=by
 match cs,h with
 | [a,b,c,d,e,f,g,i],_=>exact⟨a,b,c,d,e,f,g,i,rfl⟩
section
variable {H:Type} {enc:TypeId×Value→H} {w:World} {base:Nat} {spare:Nat→Bool} {held:Bool}
theorem rd_whole{fuel:Nat}{cs:List Value}{x:DataW H×List MemPlace}(h:DataW.trod enc Tryz.prog w base spare held fuel 23 cs=some x):∃ r:RW,cs=(rwC r).toList:=by
 obtain⟨y0,y1,n,_,hl,h0,h1⟩:=trod_struct2 Tryz.underlying23 h
 obtain⟨b,e0,_⟩:=DataW.trod_bool Tryz.underlying4 h0
 obtain⟨s,e1,_,_⟩:=DataW.trod_string Tryz.underlying9 h1
 rw [show Tryz.prog.cellsOf 23=2 by kernel_rfl] at hl
 rw [show Tryz.prog.cellsOf 4=1 by kernel_rfl] at e0
 rw [show Tryz.prog.cellsOf 9=1 by kernel_rfl] at e1
 obtain⟨u,v,rfl⟩:=list2 hl
 simp only [List.drop_zero,List.take_succ_cons,List.take_zero,List.cons.injEq,and_true] at e0
 simp only [List.drop_succ_cons,List.drop_zero,List.take_succ_cons,List.take_zero,List.cons.injEq,and_true] at e1
 subst e0;subst e1
 exact⟨⟨b,s⟩,rfl⟩
theorem rd_frac{fuel:Nat}{cs:List Value}{x:DataW H×List MemPlace}(h:DataW.trod enc Tryz.prog w base spare held fuel 25 cs=some x):∃ r:RF,cs=(rfC r).toList:=by
 obtain⟨y0,y1,n,_,hl,h0,h1⟩:=trod_struct2 Tryz.underlying25 h
 obtain⟨a,e0⟩:=rd_whole h0
 obtain⟨b,e1⟩:=rd_whole h1
 rw [show Tryz.prog.cellsOf 25=4 by kernel_rfl] at hl
 rw [show Tryz.prog.cellsOf 23=2 by kernel_rfl] at e0 e1
 obtain⟨u0,u1,u2,u3,rfl⟩:=list4 hl
 simp only [List.drop_zero,List.drop_succ_cons,List.take_succ_cons,List.take_zero,List.cons.injEq,and_true] at e0 e1
 obtain⟨rfl,rfl⟩:=e0
 obtain⟨rfl,rfl⟩:=e1
 exact⟨⟨a,b⟩,rfl⟩
theorem rd_gauss{fuel:Nat}{cs:List Value}{x:DataW H×List MemPlace}(h:DataW.trod enc Tryz.prog w base spare held fuel 27 cs=some x):∃ r:RG,cs=(rgC r).toList:=by
 obtain⟨y0,y1,n,_,hl,h0,h1⟩:=trod_struct2 Tryz.underlying27 h
 obtain⟨a,e0⟩:=rd_frac h0
 obtain⟨b,e1⟩:=rd_frac h1
 rw [show Tryz.prog.cellsOf 27=8 by kernel_rfl] at hl
 rw [show Tryz.prog.cellsOf 25=4 by kernel_rfl] at e0 e1
 obtain⟨u0,u1,u2,u3,u4,u5,u6,u7,rfl⟩:=list8 hl
 simp only [List.drop_zero,List.drop_succ_cons,List.take_succ_cons,List.take_zero,List.cons.injEq,and_true] at e0 e1
 obtain⟨rfl,rfl,rfl,rfl⟩:=e0
 obtain⟨rfl,rfl,rfl,rfl⟩:=e1
 exact⟨⟨a,b⟩,rfl⟩
end
section
variable {H:Type} {enc:TypeId×Value→H} {w:World} {base:Nat} {spare:Nat→Bool} {held:Bool}
theorem trod_struct3{P:Program}{t:TypeId}{f0 f1 f2:Field}{fuel:Nat}{cs:List Value}{x:DataW H×List MemPlace}(ht:P.underlying t=some (.struct #[f0,f1,f2]))(h:DataW.trod enc P w base spare held fuel t cs=some x):∃ y0 y1 y2 n,cs.length=P.cellsOf t∧DataW.trod enc P w base spare held n f0.type ((cs.drop f0.offset).take (P.cellsOf f0.type))=some y0 ∧
   DataW.trod enc P w base spare held n f1.type ((cs.drop f1.offset).take (P.cellsOf f1.type))=some y1 ∧
   DataW.trod enc P w base spare held n f2.type ((cs.drop f2.offset).take (P.cellsOf f2.type))=some y2:=by
 obtain⟨xs,n,_,_,hl,hlen,hf⟩:=DataW.trod_struct ht h
 match xs,hlen with
 | [y0,y1,y2],_=>exact⟨y0,y1,y2,n,hl,by simpa using hf 0 f0 rfl,by simpa using hf 1 f1 rfl,by simpa using hf 2 f2 rfl⟩
theorem cut_at{α:Type}(cs:List α)(n k:Nat):cs.drop n=(cs.drop n).take k++cs.drop (n+k):=by rw [← List.drop_drop];exact (List.take_append_drop k _).symm
end
section
variable {H:Type} {enc:TypeId×Value→H} {w:World} {base:Nat} {spare:Nat→Bool} {held:Bool}
theorem rd_disk{fuel:Nat}{cs:List Value}{x:DataW H×List MemPlace}(h:DataW.trod enc Tryz.prog w base spare held fuel 29 cs=some x):∃ r:RCi,cs=(rciC r).toList:=by
 obtain⟨y0,y1,y2,n,hl,h0,h1,h2⟩:=trod_struct3 Tryz.underlying29 h
 obtain⟨a,e0⟩:=rd_frac h0
 obtain⟨b,e1⟩:=rd_gauss h1
 obtain⟨c,e2⟩:=rd_frac h2
 rw [show Tryz.prog.cellsOf 29=16 by kernel_rfl] at hl
 rw [show Tryz.prog.cellsOf 25=4 by kernel_rfl] at e0 e2
 rw [show Tryz.prog.cellsOf 27=8 by kernel_rfl] at e1
 refine⟨⟨a,b,c⟩,?_⟩
 have e0' : (cs.drop 0).take 4=_:=e0
 have e1' : (cs.drop 4).take 8=_:=e1
 have e2' : (cs.drop 12).take 4=_:=e2
 have e3:cs.drop 12=(cs.drop 12).take 4:=(List.take_of_length_le (by rw [List.length_drop,hl];decide)).symm
 have e:cs=(cs.drop 0).take 4++((cs.drop 4).take 8++cs.drop 12):=by
  rw [← cut_at cs 4 8,← cut_at cs 0 4,List.drop_zero]
 rw [e,e3,e0', e1', e2']
 rfl
end
end Go.Proofs.YtcdbmjnipaochaaGreat
namespace Go.Proofs.YtcdbmjnipaochaaGreat
open Go.ChangeShapes Go.WideShapes Go.ChangeAt Go.RowKit
section
variable {H:Type} {enc:TypeId×Value→H} {w:World} {base:Nat} {spare:Nat→Bool} {held:Bool}
theorem trod_struct4{P:Program}{t:TypeId}{f0 f1 f2 f3:Field}{fuel:Nat}{cs:List Value}{x:DataW H×List MemPlace}(ht:P.underlying t=some (.struct #[f0,f1,f2,f3]))(h:DataW.trod enc P w base spare held fuel t cs=some x):∃ y0 y1 y2 y3 n,cs.length=P.cellsOf t∧DataW.trod enc P w base spare held n f0.type ((cs.drop f0.offset).take (P.cellsOf f0.type))=some y0 ∧
   DataW.trod enc P w base spare held n f1.type ((cs.drop f1.offset).take (P.cellsOf f1.type))=some y1 ∧
   DataW.trod enc P w base spare held n f2.type ((cs.drop f2.offset).take (P.cellsOf f2.type))=some y2 ∧
   DataW.trod enc P w base spare held n f3.type ((cs.drop f3.offset).take (P.cellsOf f3.type))=some y3:=by
 obtain⟨xs,n,_,_,hl,hlen,hf⟩:=DataW.trod_struct ht h
 match xs,hlen with
 | [y0,y1,y2,y3],_=>exact⟨y0,y1,y2,y3,n,hl,by simpa using hf 0 f0 rfl,by simpa using hf 1 f1 rfl,by simpa using hf 2 f2 rfl,by simpa using hf 3 f3 rfl⟩
def thC(a b c:RCi)(n:Int):List Value:=(rciC a).toList++((rciC b).toList++((rciC c).toList++[.int .i64 n]))
theorem cutH{α:Type}(cs:List α):cs=(cs.drop 0).take 16++((cs.drop 16).take 16++((cs.drop 32).take 16++cs.drop 48)):=by
 have h:∀ n k,cs.drop n=(cs.drop n).take k++cs.drop (n+k):=fun n k=>by rw [← List.drop_drop];exact (List.take_append_drop k _).symm
 rw [← h 32 16,← h 16 16,← h 0 16,List.drop_zero]
theorem rd_three{fuel:Nat}{cs:List Value}{x:DataW H×List MemPlace}(h:DataW.trod enc Tryz.prog w base spare held fuel 54 cs=some x):∃ a b c n,cs=thC a b c n:=by
 obtain⟨y0,y1,y2,y3,n,hl,h0,h1,h2,h3⟩:=trod_struct4 Tryz.underlying54 h
 obtain⟨a,e0⟩:=rd_disk h0
 obtain⟨b,e1⟩:=rd_disk h1
 obtain⟨c,e2⟩:=rd_disk h2
 obtain⟨t,e3,_⟩:=DataW.trod_int Tryz.underlying3 h3
 rw [show Tryz.prog.cellsOf 54=49 by kernel_rfl] at hl
 rw [show Tryz.prog.cellsOf 29=16 by kernel_rfl] at e0 e1 e2
 rw [show Tryz.prog.cellsOf 3=1 by kernel_rfl] at e3
 refine⟨a,b,c,t,?_⟩
 rw [cutH cs]
 have e5:cs.drop 48=[.int .i64 t]:=by
  rw [← e3]
  exact (List.take_of_length_le (by rw [List.length_drop,hl];decide)).symm
 have e0' : (cs.drop 0).take 16=_:=e0
 have e1' : (cs.drop 16).take 16=_:=e1
 have e2' : (cs.drop 32).take 16=_:=e2
 rw [e5,e0', e1', e2']
 rfl
theorem open_three{r:Reach}{b0:Nat}{v:Value}{d:DataW H}{p:List MemPlace}(hv:Value.okWide Tryz.prog w r b0 54 v)(h:DataW.Trod enc Tryz.prog w base spare held 54 v d p):∃ q:RCi×RCi×RCi×Int,v=.agg ⟨thC q.1 q.2.1 q.2.2.1 q.2.2.2⟩:=by
 obtain⟨cs,rfl,_⟩:=okWide_struct Tryz.underlying54 hv
 obtain⟨fuel,hf⟩:=h
 obtain⟨x,y,z,u,e⟩:=rd_three hf
 refine⟨⟨x,y,z,u⟩,?_⟩
 rw [show cs=⟨thC x y z u⟩ from Array.ext' e]
end
end Go.Proofs.YtcdbmjnipaochaaGreat
namespace Go.Proofs.YtcdbmjnipaochaaGreat
open Go.ChangeShapes Go.WideShapes Go.ChangeAt Go.RowKit Go.WideElems
theorem law_own:ownKnob Tryz.prog.godebug=none:=by kernel_rfl
theorem law_laid:laidOutB Tryz.prog=true:=by kernel_rfl
section
variable {H:Type} {enc:TypeId×Value→H}
theorem trodAll_stays{W W': World}{sp:Nat→Bool}:∀ {ts:List TypeId} {vs:List Value} {ds:List (DataW H)} {ps:List MemPlace},(∀ t ∈ ts,Tryz.prog.readableRec t=true∧t<Tryz.prog.types.size) →
  DataW.TrodAll enc Tryz.prog W 0 (fun _=>true) true ts vs ds ps→(∀ p ∈ ps,W.sameAt W' p)→(∀ p ∈ ps,sp p.block=true)→DataW.TrodAll enc Tryz.prog W' 0 sp true ts vs ds ps:=by
 intro ts
 induction ts with
 | nil =>
  intro vs ds ps _ h _ _
  obtain⟨rfl,rfl,rfl⟩:=trodAll_nil h
  exact trodAll_mk0
 | cons t ts ih =>
  intro vs ds ps ht h hs hb
  obtain⟨v,vs', d,ds', p,p', rfl,rfl,rfl,h0,h1⟩:=trodAll_cons h
  obtain⟨h2,h3⟩:=ht t (by simp)
  exact trodAll_cons_mk (Trod_stays law_laid h2 h3 h0 (fun q hq=>hs q (by simp [hq])) (fun q hq=>hb q (by simp [hq]))) (ih (fun t ht' => ht t (by simp [ht'])) h1 (fun q hq=>hs q (by simp [hq])) (fun q hq=>hb q (by simp [hq])))
theorem law_post{f:Func}{s:ChangeSpec}{fresh handsOn again:Bool}{W W': World}{args:Array Value}{ds gs:List (DataW H)}{before:List MemPlace}(hW:DataW.Whole enc Tryz.prog f.params.toList s.vars false W args.toList ds gs before)(hv:s.vars=[])(hfn:s.fn H ds={ results:=[.lit (.bool true)],args:=ds })(hr:f.resultTypes=#[4])(hp:f.params.toList.all (fun t=>Tryz.prog.readableRec t&&decide (t<Tryz.prog.types.size))=true)(hb:Below W.heap.size W W'):s.post enc Tryz.prog f false fresh handsOn again W args (.bool true) W' := by
 have hlt:∀ p ∈ before,p.block<W.heap.size:=fun p hq=>hW.lt p hq
 have hW' := hW
 obtain⟨p,q,hA,hV,rfl,hfz,hnd⟩:=hW
 rw [hv] at hV
 obtain⟨rfl,rfl⟩:=trodVars_none hV
 have hpar:∀ t ∈ f.params.toList,Tryz.prog.readableRec t=true∧t<Tryz.prog.types.size:=fun t ht=>by
  have:=List.all_eq_true.1 hp t ht
  simpa using this
 have hargs:∀ sp:Nat→Bool,(∀ x ∈ p++[],sp x.block=true)→DataW.TrodAll enc Tryz.prog W' 0 sp true f.params.toList args.toList ds p:=fun sp hs =>
  trodAll_stays hpar hA (fun x hx=>hb.same (hlt x (by simp [hx]))) (fun x hx=>hs x (by simp [hx]))
 have hres:∀ (b:Nat) (sp:Nat→Bool) (hd:Bool),DataW.TrodAll enc Tryz.prog W' b sp hd f.resultTypes.toList (Value.resultList f.resultTypes.size (.bool true)) [.lit (.bool true)] []:=fun _ _ _=>by
  rw [hr]
  exact trodAll_cons_mk (shut_bool Tryz.underlying4 _) trodAll_mk0
 have hold:∀ x ∈ p++[],(fun b=>decide (b<W.heap.size)) x.block=true:=fun x hx=>by simpa using hlt x hx
 have hfn' : s.fn H (ds++[])={ results:=[.lit (.bool true)],args:=ds }:=by rw [List.append_nil];exact hfn
 refine⟨ds,[],p++[],[],p,[],hW', by rw [hfn'];exact hres _ _ _,by rw [hfn'];exact hargs _ hold,by rw [hv,hfn'];rfl,World.keptBut_mono (fun x hx=>⟨hx,?_⟩) (hb.frame (· ∈ p++[])),fun _=>?_⟩
 ·simpa using hx
 ·refine⟨ok_one hr rfl (okWide_bool_mk Tryz.underlying4 _),_,[],([]++p)++[],⟨[]++p,[],trodAll_append (hargs _ (fun _ _=>rfl)) (hres _ _ _),by rw [hv];rfl,rfl,?_,?_⟩,?_⟩
  ·intro b off hx
   have hin:MemPlace.cell b off ∈ p++[]:=by simpa using hx
   rw [hb.frozen (hlt _ hin)]
   exact hfz b off hin
  ·intro ha
   have:=hnd ha
   simpa using this
  ·intro x hx _
   simpa using hx
end
end Go.Proofs.YtcdbmjnipaochaaGreat
namespace Go.Proofs.YtcdbmjnipaochaaGreat.diskRuleLaw
open Go.ChangeShapes Go.WideShapes Go.ChangeAt Go.RowKit
theorem lLaw{W:World}(q:RCi×RCi×RCi×Int):Calls Tryz.prog 4 #[.agg ⟨thC q.1 q.2.1 q.2.2.1 q.2.2.2⟩] W (RetV (.bool true) W):=by
 obtain⟨a,b,c,n⟩:=q
 have e:thC a b c n=(rciC a).toList++(rciC b).toList++(rciC c).toList++[.int .i64 n]:=by simp only [thC,List.append_assoc]
 show Calls Tryz.prog 4 #[.agg ⟨thC a b c n⟩] W (RetV (.bool true) W)
 rw [e]
 clear e
 cases h:(lgK a||lgK b||lgK c) with
 | true=>exact lDr0 a b c n h
 | false=>cases h1:dsOk a with
  | false=>exact lDr1 a b c n h h1
  | true =>
   obtain⟨a,rfl,_⟩:=dsOk_ex h1
   cases h2:dsOk b with
   | false=>exact lDr2 a b c n h h1 h2
   | true =>
    obtain⟨b,rfl,_⟩:=dsOk_ex h2
    cases h3:dsOk c with
    | false=>exact lDr3 a b c n h h1 h2 h3
    | true =>
     obtain⟨c,rfl,_⟩:=dsOk_ex h3
     cases h4:Ci.all3 a b c with
     | false=>exact lDr4 a b c n h h1 h2 h3 h4
     | true=>cases h5:cifits (rci (Ci.f4p a b c)) with
      | false=>exact lDr6 a b c n h h1 h2 h3 h4 h5
      | true=>cases h6:cifits (rci (Ci.f4q a b c)) with
       | false=>exact lDr7 a b c n h h1 h2 h3 h4 h5 h6
       | true=>exact lDr5 a b c _ _ n rfl rfl (ruF (ok3_of h1 h2 h3 h4)) h h1 h2 h3 h4 h5 h6
theorem contract(H:Type)(enc:TypeId×Value→H)(W:World)(base:Nat)(args:Array Value)(ds gs:List (DataW H))(before:List MemPlace)(hval:∀ (j:Nat) t v,Tryz.f4.params[j]? = some t→args[j]? = some v→Value.okWide Tryz.prog W .any base t v)(hW:DataW.Whole enc Tryz.prog Tryz.f4.params.toList Rows.diskRuleSpec.vars false W args.toList ds gs before):Calls Tryz.prog 4 args W fun e W' => ∃ v,e=.returned v∧Rows.diskRuleSpec.post enc Tryz.prog Tryz.f4 false true false false W args v W' := by
 have hW' := hW
 obtain⟨p,q,hA,hV,rfl,hfz,hnd⟩:=hW
 rw [Tryz.params4] at hA hval
 obtain⟨v0,vs0,d0,ds0,p0,q0,hargs,rfl,rfl,h0,r0⟩:=trodAll_cons hA
 obtain⟨rfl,rfl,rfl⟩:=trodAll_nil r0
 obtain rfl:args=#[v0]:=by cases args;simp_all
 obtain⟨rfl,rfl⟩:=trodVars_none hV
 obtain⟨q,rfl⟩:=open_three (hval 0 _ v0 rfl rfl) h0
 refine (lLaw q).mono fun e W' h=>?_
 obtain⟨h1,h2⟩:=h.is
 exact⟨_,h1,law_post hW' rfl rfl rfl (by kernel_rfl) h2⟩
theorem lifted(os:Os)(started:os.Started)(H:Type)(enc:TypeId×Value→H):ReturnsInHanded {} Tryz.checked os 4 .any (Rows.diskRuleSpec.pre6 enc Tryz.prog Tryz.f4 Rows.diskRuleRow.domain false) (Rows.diskRuleSpec.post enc Tryz.prog Tryz.f4 false true false false):=by
 refine returnsInHanded_of_change (C:=Tryz.checked) law_own started (by kernel_rfl) Tryz.func4
  (ChangeSpec.witness6 (enc:=enc) (C:=Tryz.checked) false ⟨#[],#[.agg #[.bool false,.string ⟨#[]⟩,.bool false,.string ⟨#[]⟩,.bool false,.string ⟨#[]⟩,.bool false,.string ⟨#[]⟩,.bool false,.string ⟨#[]⟩,.bool false,.string ⟨#[]⟩,.bool false,.string ⟨#[]⟩,.bool false,.string ⟨#[]⟩,.bool false,.string ⟨#[]⟩,.bool false,.string ⟨#[]⟩,.bool false,.string ⟨#[]⟩,.bool false,.string ⟨#[]⟩,.bool false,.string ⟨#[]⟩,.bool false,.string ⟨#[]⟩,.bool false,.string ⟨#[]⟩,.bool false,.string ⟨#[]⟩,.bool false,.string ⟨#[]⟩,.bool false,.string ⟨#[]⟩,.bool false,.string ⟨#[]⟩,.bool false,.string ⟨#[]⟩,.bool false,.string ⟨#[]⟩,.bool false,.string ⟨#[]⟩,.bool false,.string ⟨#[]⟩,.bool false,.string ⟨#[]⟩,.int .i64 0]],[]⟩ 8 (by kernel_rfl) (by kernel_rfl) (by kernel_rfl) (by kernel_rfl)) ?_
 intro W base args ds gs before hval hW _ _
 exact contract H enc W base args ds gs before hval hW
theorem kA:Tryz.pinned.checked.prog.funcNamed Rows.diskRuleRow.func=some 4:=by kernel_rfl
theorem laidP:laidOutB Tryz.pinned.checked.prog=true:=law_laid
theorem kB:joinedFacts Tryz.pinned.checked.prog 4 Tryz.f4 Rows.diskRuleSpec Rows.diskRuleRow=true:=by
 unfold joinedFacts
 simp only [Bool.and_eq_true]
 repeat' apply And.intro
 all_goals first|with_reducible exact laidP|as_aux_lemma=>kernel_rfl
theorem kC:Tryz.f4.isInstance Tryz.pinned.checked.prog Rows.diskRuleRow.origin Rows.diskRuleRow.targs:=of_decide_eq_true (by kernel_rfl)
theorem kD:Tryz.f4.isWrapper Tryz.pinned.checked.prog Rows.diskRuleRow.wrapper Rows.diskRuleRow.mainSum:=by
 unfold Func.isWrapper;first|(rw [if_pos (by decide +kernel)];kernel_rfl)|(rw [if_neg (by decide +kernel)];exact⟨rfl,rfl⟩)
theorem over:Rows.DiskRuleSaid :=
 OpenClaim.holds_of_wide 4 Tryz.f4 rfl rfl rfl rfl rfl rfl rfl ⟨rfl,rfl,rfl,rfl,rfl⟩ rfl rfl rfl rfl rfl kA Tryz.func4 kB kC kD
  (fun os started H enc _=>lifted os started H enc)
end Go.Proofs.YtcdbmjnipaochaaGreat.diskRuleLaw
namespace Go.Proofs.YtcdbmjnipaochaaGreat
theorem diskRule_proved:Rows.DiskRuleSaid:=diskRuleLaw.over
end Go.Proofs.YtcdbmjnipaochaaGreat
