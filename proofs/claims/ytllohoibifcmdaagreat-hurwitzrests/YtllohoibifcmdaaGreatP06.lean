/- tracerylaw24.HurwitzRests returns true for every three numbers, and changes nothing that it was handed. No condition. -/
import Derived.Test.YtllohoibifcmdaaGreatP05
import Derived.ProofKit
import Derived.OpenShut
import Derived.JoinedCond
import Derived.Deep.Slices
import Derived.Test.YtllohoibifcmdaaGreatRows
import Derived.WalkKit
import Derived.Below
import Derived.ChangeSame
import Derived.WideKeyArgs
import Derived.JoinedOf
import Derived.JoinedAt
set_option linter.unusedVariables false
set_option linter.unusedSimpArgs false
namespace Go.Proofs.YtllohoibifcmdaaGreat
open Go.RowKit Rgn
def dv (d a:Cx):Prop:=∃ c,isI c ∧ a = d.mul c
theorem isI_add {x y:Cx} (hx:isI x) (hy:isI y):isI (x.add y):=by
 obtain ⟨a,b,rfl⟩:=hx
 obtain ⟨c,d,rfl⟩:=hy
 refine ⟨a + c,b + d,Cx.ext' ?_ ?_⟩
 ·exact (Rat.intCast_add a c).symm
 ·exact (Rat.intCast_add b d).symm
theorem cmul_comm (x y:Cx):x.mul y = y.mul x:=by
 refine Cx.ext' ?_ ?_
 ·show x.re * y.re - x.im * y.im = y.re * x.re - y.im * x.im; grind
 ·show x.re * y.im + x.im * y.re = y.re * x.im + y.im * x.re; grind
theorem cmul_assoc (x y z:Cx):(x.mul y).mul z = x.mul (y.mul z):=by
 refine Cx.ext' ?_ ?_
 ·show (x.re * y.re - x.im * y.im) * z.re - (x.re * y.im + x.im * y.re) * z.im = x.re * (y.re * z.re - y.im * z.im) - x.im * (y.re * z.im + y.im * z.re); grind
 ·show (x.re * y.re - x.im * y.im) * z.im + (x.re * y.im + x.im * y.re) * z.re = x.re * (y.re * z.im + y.im * z.re) + x.im * (y.re * z.re - y.im * z.im); grind
theorem cmul_add (x y z:Cx):x.mul (y.add z) = (x.mul y).add (x.mul z):=by
 refine Cx.ext' ?_ ?_
 ·show x.re * (y.re + z.re) - x.im * (y.im + z.im) = (x.re * y.re - x.im * y.im) + (x.re * z.re - x.im * z.im); grind
 ·show x.re * (y.im + z.im) + x.im * (y.re + z.re) = (x.re * y.im + x.im * y.re) + (x.re * z.im + x.im * z.re); grind
theorem dv_add {d a b:Cx} (h:dv d a) (h' : dv d b):dv d (a.add b):=by
 obtain ⟨c,hc,rfl⟩:=h
 obtain ⟨e,he,rfl⟩:=h'
 exact ⟨c.add e,isI_add hc he,(cmul_add d c e).symm⟩
theorem dv_mul {d a q:Cx} (h:dv d a) (hq:isI q):dv d (q.mul a):=by
 obtain ⟨c,hc,rfl⟩:=h
 exact ⟨q.mul c,isI_mul hq hc,by rw [← cmul_assoc,← cmul_assoc,cmul_comm q d]⟩
theorem dv_trans {d a b:Cx} (h:dv d a) (h' : dv a b):dv d b:=by
 obtain ⟨c,hc,rfl⟩:=h
 obtain ⟨e,he,rfl⟩:=h'
 exact ⟨c.mul e,isI_mul hc he,cmul_assoc d c e⟩
theorem zero_parts {y:Cx} (h:y.zero = true):y.re = 0 ∧ y.im = 0:=by
 unfold Cx.zero at h
 simp only [Bool.and_eq_true,decide_eq_true_eq] at h
 exact h
theorem dv_zero (d:Cx) {y:Cx} (h:y.zero = true):dv d y:=by
 obtain ⟨h1,h2⟩:=zero_parts h
 refine ⟨Cx.ofInt 0 0,⟨0,0,rfl⟩,Cx.ext' ?_ ?_⟩
 ·show y.re = d.re * ((0:Int):Rat) - d.im * ((0:Int):Rat)
  rw [h1,show ((0:Int):Rat) = 0 from rfl]; grind
 ·show y.im = d.re * ((0:Int):Rat) + d.im * ((0:Int):Rat)
  rw [h2,show ((0:Int):Rat) = 0 from rfl]; grind
theorem dv_refl (d:Cx):dv d d:=by
 refine ⟨Cx.ofInt 1 0,⟨1,0,rfl⟩,Cx.ext' ?_ ?_⟩
 ·show d.re = d.re * ((1:Int):Rat) - d.im * ((0:Int):Rat)
  rw [show ((0:Int):Rat) = 0 from rfl,show ((1:Int):Rat) = 1 from rfl]; grind
 ·show d.im = d.re * ((0:Int):Rat) + d.im * ((1:Int):Rat)
  rw [show ((0:Int):Rat) = 0 from rfl,show ((1:Int):Rat) = 1 from rfl]; grind
theorem comb_law {a b:Cx}:∀ {n:Nat} {x0 x1 x2 y0 y1 y2:Cx} {r:Cx × Cx × Cx},combC n x0 x1 x2 y0 y1 y2 = some r → isI x0 → isI x1 → isI x2 → isI y0 → isI y1 → isI y2 → x0 = (x1.mul a).add (x2.mul b) → y0 = (y1.mul a).add (y2.mul b) →
  (isI r.1 ∧ isI r.2.1 ∧ isI r.2.2) ∧ r.1 = (r.2.1.mul a).add (r.2.2.mul b) ∧ dv r.1 x0 ∧ dv r.1 y0:=by
 intro n
 induction n with
 | zero=>intro x0 x1 x2 y0 y1 y2 r h; cases h
 | succ n ih =>
  intro x0 x1 x2 y0 y1 y2 r h ix0 ix1 ix2 iy0 iy1 iy2 hx hy
  cases hz:y0.zero with
  | true =>
   have:=comb_end h hz
   subst this
   exact ⟨⟨ix0,ix1,ix2⟩,hx,dv_refl _,dv_zero _ hz⟩
  | false =>
   have hs:=comb_step h hz
   have iq:=isI_near (x0.div y0)
   generalize (x0.div y0).near = q at hs iq
   have e:x0.sub (q.mul y0) = ((x1.sub (q.mul y1)).mul a).add ((x2.sub (q.mul y2)).mul b):=by
    rw [hx,hy]
    refine Cx.ext' ?_ ?_
    ·show ((x1.re * a.re - x1.im * a.im) + (x2.re * b.re - x2.im * b.im)) - (q.re * ((y1.re * a.re - y1.im * a.im) + (y2.re * b.re - y2.im * b.im)) - q.im * ((y1.re * a.im + y1.im * a.re) + (y2.re * b.im + y2.im * b.re))) =
      ((x1.re - (q.re * y1.re - q.im * y1.im)) * a.re - (x1.im - (q.re * y1.im + q.im * y1.re)) * a.im) + ((x2.re - (q.re * y2.re - q.im * y2.im)) * b.re - (x2.im - (q.re * y2.im + q.im * y2.re)) * b.im)
     grind
    ·show ((x1.re * a.im + x1.im * a.re) + (x2.re * b.im + x2.im * b.re)) - (q.re * ((y1.re * a.im + y1.im * a.re) + (y2.re * b.im + y2.im * b.re)) + q.im * ((y1.re * a.re - y1.im * a.im) + (y2.re * b.re - y2.im * b.im))) =
      ((x1.re - (q.re * y1.re - q.im * y1.im)) * a.im + (x1.im - (q.re * y1.im + q.im * y1.re)) * a.re) + ((x2.re - (q.re * y2.re - q.im * y2.im)) * b.im + (x2.im - (q.re * y2.im + q.im * y2.re)) * b.re)
     grind
   obtain ⟨hi,hr,d1,d2⟩:=ih hs iy0 iy1 iy2 (isI_sub ix0 (isI_mul iq iy0)) (isI_sub ix1 (isI_mul iq iy1)) (isI_sub ix2 (isI_mul iq iy2)) hy e
   refine ⟨hi,hr,?_,d1⟩
   have h3:=dv_add d2 (dv_mul d1 iq)
   have e2:(x0.sub (q.mul y0)).add (q.mul y0) = x0:=by
    refine Cx.ext' ?_ ?_
    ·show x0.re - (q.re * y0.re - q.im * y0.im) + (q.re * y0.re - q.im * y0.im) = x0.re; grind
    ·show x0.im - (q.re * y0.im + q.im * y0.re) + (q.re * y0.im + q.im * y0.re) = x0.im; grind
   rwa [e2] at h3
theorem num_pos' (q:Rat):(0 < q.num.sign) ↔ 0 < q:=by
 have e:0 < q ↔ 0 < q.num:=by rw [Rat.lt_iff]; simp
 rw [e]
 rcases Int.lt_trichotomy q.num 0 with h | h | h
 ·rw [Int.sign_eq_neg_one_of_neg h]; omega
 ·rw [h]; decide
 ·rw [Int.sign_eq_one_of_pos h]; omega
theorem num_nn' (q:Rat):(0 ≤ q.num.sign) ↔ 0 ≤ q:=by
 rw [← Rat.num_nonneg]
 rcases Int.lt_trichotomy q.num 0 with h | h | h
 ·rw [Int.sign_eq_neg_one_of_neg h]; omega
 ·rw [h]; decide
 ·rw [Int.sign_eq_one_of_pos h]; omega
def pos1 (z:Cx):Prop:=0 < z.re ∧ 0 ≤ z.im
theorem good_pos {x:Cx} {k:Nat}:good x k = true ↔ pos1 (x.mul (unitC k)):=by
 unfold good pos1
 rw [Bool.and_eq_true,decide_eq_true_eq,decide_eq_true_eq,num_pos', num_nn']
theorem unit_0 (x:Cx):x.mul (unitC 0) = x:=by
 refine Cx.ext' ?_ ?_
 ·show x.re * ((1:Int):Rat) - x.im * ((0:Int):Rat) = x.re
  rw [show ((0:Int):Rat) = 0 from rfl,show ((1:Int):Rat) = 1 from rfl]; grind
 ·show x.re * ((0:Int):Rat) + x.im * ((1:Int):Rat) = x.im
  rw [show ((0:Int):Rat) = 0 from rfl,show ((1:Int):Rat) = 1 from rfl]; grind
theorem unit_1 (x:Cx):x.mul (unitC 1) = ⟨-x.im,x.re⟩:=by
 refine Cx.ext' ?_ ?_
 ·show x.re * ((0:Int):Rat) - x.im * ((1:Int):Rat) = -x.im
  rw [show ((0:Int):Rat) = 0 from rfl,show ((1:Int):Rat) = 1 from rfl]; grind
 ·show x.re * ((1:Int):Rat) + x.im * ((0:Int):Rat) = x.re
  rw [show ((0:Int):Rat) = 0 from rfl,show ((1:Int):Rat) = 1 from rfl]; grind
theorem unit_2 (x:Cx):x.mul (unitC 2) = ⟨-x.re,-x.im⟩:=by
 refine Cx.ext' ?_ ?_
 ·show x.re * ((-1:Int):Rat) - x.im * ((0:Int):Rat) = -x.re
  rw [show ((0:Int):Rat) = 0 from rfl,show ((-1:Int):Rat) = -1 from rfl]; grind
 ·show x.re * ((0:Int):Rat) + x.im * ((-1:Int):Rat) = -x.im
  rw [show ((0:Int):Rat) = 0 from rfl,show ((-1:Int):Rat) = -1 from rfl]; grind
theorem unit_3 (x:Cx):x.mul (unitC 3) = ⟨x.im,-x.re⟩:=by
 refine Cx.ext' ?_ ?_
 ·show x.re * ((0:Int):Rat) - x.im * ((-1:Int):Rat) = x.im
  rw [show ((0:Int):Rat) = 0 from rfl,show ((-1:Int):Rat) = -1 from rfl]; grind
 ·show x.re * ((-1:Int):Rat) + x.im * ((0:Int):Rat) = -x.re
  rw [show ((0:Int):Rat) = 0 from rfl,show ((-1:Int):Rat) = -1 from rfl]; grind
def fst1 (z:Cx):Cx:=z.mul (unitC (firstC z).toNat)
theorem fst_of {z w:Cx} (hw:pos1 w) (h:w = z.mul (unitC 0) ∨ w = z.mul (unitC 1) ∨ w = z.mul (unitC 2) ∨ w = z.mul (unitC 3)):fst1 z = w:=by
 obtain ⟨h1,h2⟩:=hw
 have g:∀ k,good z k = false ∨ pos1 (z.mul (unitC k)):=fun k=>by
  cases e:good z k with
  | true=>exact .inr (good_pos.1 e)
  | false=>exact .inl rfl
 have gp:∀ k,w = z.mul (unitC k) → good z k = true:=fun k e=>good_pos.2 (by rw [← e]; exact ⟨h1,h2⟩)
 unfold fst1 firstC
 rcases h with h | h | h | h
 ·rw [if_pos (gp _ h),h]; rfl
 ·have n0:good z 0 = false:=by
   rcases g 0 with e | ⟨e,e'⟩
   ·exact e
   ·rw [unit_1] at h; rw [unit_0] at e e'; subst h; exfalso
    have h1:0 < -z.im:=h1
    grind
  rw [if_neg (by rw [n0]; decide),if_pos (gp _ h),h]; rfl
 ·have n0:good z 0 = false:=by
   rcases g 0 with e | ⟨e,e'⟩
   ·exact e
   ·rw [unit_2] at h; rw [unit_0] at e e'; subst h; exfalso
    have h1:0 < -z.re:=h1
    grind
  have n1:good z 1 = false:=by
   rcases g 1 with e | ⟨e,e'⟩
   ·exact e
   ·rw [unit_2] at h; rw [unit_1] at e e'; subst h; exfalso
    have h1:0 < -z.re:=h1
    have e' : 0 ≤ z.re:=e'
    grind
  rw [if_neg (by rw [n0]; decide),if_neg (by rw [n1]; decide),if_pos (gp _ h),h]; rfl
 ·have n0:good z 0 = false:=by
   rcases g 0 with e | ⟨e,e'⟩
   ·exact e
   ·rw [unit_3] at h; rw [unit_0] at e e'; subst h; exfalso
    have h2:0 ≤ -z.re:=h2
    grind
  have n1:good z 1 = false:=by
   rcases g 1 with e | ⟨e,e'⟩
   ·exact e
   ·rw [unit_3] at h; rw [unit_1] at e e'; subst h; exfalso
    have h1:0 < z.im:=h1
    have e:0 < -z.im:=e
    grind
  have n2:good z 2 = false:=by
   rcases g 2 with e | ⟨e,e'⟩
   ·exact e
   ·rw [unit_3] at h; rw [unit_2] at e e'; subst h; exfalso
    have h1:0 < z.im:=h1
    have e' : 0 ≤ -z.im:=e'
    grind
  rw [if_neg (by rw [n0]; decide),if_neg (by rw [n1]; decide),if_neg (by rw [n2]; decide),if_pos (gp _ h),h]; rfl
theorem has_pos {z:Cx} (h:z.zero = false):∃ k,k < 4 ∧ pos1 (z.mul (unitC k)):=by
 have hz:z.re ≠ 0 ∨ z.im ≠ 0:=by
  unfold Cx.zero at h
  simp only [Bool.and_eq_false_iff,decide_eq_false_iff_not] at h
  exact h
 by_cases h1:0 < z.re ∧ 0 ≤ z.im
 ·exact ⟨0,by decide,by rw [unit_0]; exact h1⟩
 by_cases h2:0 < -z.im ∧ 0 ≤ z.re
 ·exact ⟨1,by decide,by rw [unit_1]; exact h2⟩
 by_cases h3:0 < -z.re ∧ 0 ≤ -z.im
 ·exact ⟨2,by decide,by rw [unit_2]; exact h3⟩
 refine ⟨3,by decide,?_⟩
 rw [unit_3]
 constructor
 ·show 0 < z.im
  grind
 ·show 0 ≤ -z.re
  grind
theorem lt4 {k:Nat} (h:k < 4):k = 0 ∨ k = 1 ∨ k = 2 ∨ k = 3:=by omega
theorem unit_back {k j:Nat} (hk:k < 4) (hj:j < 4):∃ m,m < 4 ∧ (unitC k).mul (unitC m) = unitC j:=by
 refine ⟨(j + 4 - k) % 4,Nat.mod_lt _ (by decide),?_⟩
 rcases lt4 hk with rfl | rfl | rfl | rfl <;> rcases lt4 hj with rfl | rfl | rfl | rfl <;> decide +kernel
theorem fst_pos {z:Cx} (h:z.zero = false):pos1 (fst1 z):=by
 obtain ⟨k,hk,hp⟩:=has_pos h
 rw [fst_of hp (by rcases lt4 hk with rfl | rfl | rfl | rfl <;> simp)]
 exact hp
theorem fst_unit {z:Cx} (h:z.zero = false) {k:Nat} (hk:k < 4):fst1 (z.mul (unitC k)) = fst1 z:=by
 obtain ⟨j,hj,hp⟩:=has_pos h
 obtain ⟨m,hm,e⟩:=unit_back hk hj
 have h1:fst1 z = z.mul (unitC j):=fst_of hp (by rcases lt4 hj with rfl | rfl | rfl | rfl <;> simp)
 rw [h1]
 have h2:(z.mul (unitC k)).mul (unitC m) = z.mul (unitC j):=by rw [cmul_assoc,e]
 exact fst_of hp (by rw [← h2]; rcases lt4 hm with rfl | rfl | rfl | rfl <;> simp)
theorem norm_int1 {c:Cx} (hc:isI c) (h:c.norm = 1):∃ k,k < 4 ∧ c = unitC k:=by
 obtain ⟨a,b,rfl⟩:=hc
 rw [norm_int] at h
 have h:a * a + b * b = 1:=by
  have e:((a * a + b * b:Int):Rat) = ((1:Int):Rat):=h
  exact Rat.intCast_inj.1 e
 have h1:=isq a
 have h2:=isq b
 have ha:a = -1 ∨ a = 0 ∨ a = 1:=by
  rcases Int.lt_trichotomy a 0 with q | q | q
  ·by_cases e:a = -1
   ·exact .inl e
   ·have:=Int.mul_le_mul_of_nonneg_left (show 2 ≤ -a by omega) (show 0 ≤ -a by omega)
    have e2:-a * -a = a * a:=Int.neg_mul_neg a a
    omega
  ·exact .inr (.inl q)
  ·by_cases e:a = 1
   ·exact .inr (.inr e)
   ·have:=Int.mul_le_mul_of_nonneg_left (show 2 ≤ a by omega) (show 0 ≤ a by omega)
    omega
 have hb:b = -1 ∨ b = 0 ∨ b = 1:=by
  rcases Int.lt_trichotomy b 0 with q | q | q
  ·by_cases e:b = -1
   ·exact .inl e
   ·have:=Int.mul_le_mul_of_nonneg_left (show 2 ≤ -b by omega) (show 0 ≤ -b by omega)
    have e2:-b * -b = b * b:=Int.neg_mul_neg b b
    omega
  ·exact .inr (.inl q)
  ·by_cases e:b = 1
   ·exact .inr (.inr e)
   ·have:=Int.mul_le_mul_of_nonneg_left (show 2 ≤ b by omega) (show 0 ≤ b by omega)
    omega
 rcases ha with rfl | rfl | rfl <;> rcases hb with rfl | rfl | rfl <;> first | (exfalso; revert h; decide) | exact ⟨0,by decide,rfl⟩ | exact ⟨1,by decide,rfl⟩ | exact ⟨2,by decide,rfl⟩ | exact ⟨3,by decide,rfl⟩
theorem zero_eq {y z:Cx} (hy:y.zero = true) (hz:z.zero = true):y = z:=by
 obtain ⟨h1,h2⟩:=zero_parts hy
 obtain ⟨h3,h4⟩:=zero_parts hz
 exact Cx.ext' (h1.trans h3.symm) (h2.trans h4.symm)
theorem dv_of_zero {z w:Cx} (hz:z.zero = true) (h:dv z w):w.zero = true:=by
 obtain ⟨c,_,rfl⟩:=h
 obtain ⟨h1,h2⟩:=zero_parts hz
 unfold Cx.zero
 rw [decide_eq_true,decide_eq_true]
 ·rfl
 ·show z.re * c.im + z.im * c.re = 0
  rw [h1,h2]; grind
 ·show z.re * c.re - z.im * c.im = 0
  rw [h1,h2]; grind
theorem fst_same {z w:Cx} (h:dv z w) (h' : dv w z):fst1 z = fst1 w:=by
 cases hz:z.zero with
 | true=>rw [zero_eq hz (dv_of_zero hz h)]
 | false =>
  obtain ⟨c,ic,e⟩:=h
  obtain ⟨d,id,e'⟩:=h'
  have hn:=zero_norm hz
  have hm:z.norm = z.norm * c.norm * d.norm:=by
   have h1:z.norm = w.norm * d.norm:=by rw [← norm_mul,← e']
   rw [h1]
   have h2:w.norm = z.norm * c.norm:=by rw [← norm_mul,← e]
   rw [h2,h1,h2]
   grind
  obtain ⟨m,m0,em⟩:=isI_norm ic
  obtain ⟨n,n0,en⟩:=isI_norm id
  have h1:c.norm * d.norm = 1:=by
   have hi:z.norm⁻¹ * z.norm = 1:=Rat.inv_mul_cancel _ hn
   have h2:z.norm⁻¹ * z.norm = (z.norm⁻¹ * z.norm) * (c.norm * d.norm):=by
    have:=congrArg (fun q=>z.norm⁻¹ * q) hm
    have:z.norm⁻¹ * z.norm = z.norm⁻¹ * (z.norm * c.norm * d.norm):=this
    grind
   rw [hi] at h2
   grind
  have h3:m * n = 1:=by
   rw [em,en,← Rat.intCast_mul] at h1
   exact Rat.intCast_inj.1 h1
  have h4:m = 1:=by
   have:m ∣ 1:=⟨n,h3.symm⟩
   have:=Int.le_of_dvd (by decide) this
   have:m ≠ 0:=fun e=>by rw [e] at h3; omega
   omega
  obtain ⟨k,hk,rfl⟩:=norm_int1 ic (by rw [em,h4]; rfl)
  rw [e,fst_unit hz hk]
theorem div_of_mul {d c:Cx} (h:d.zero = false):(d.mul c).div d = c:=by
 have hn:=zero_norm h
 have hi:d.norm⁻¹ * d.norm = 1:=Rat.inv_mul_cancel _ hn
 have hd:d.norm = d.re * d.re + d.im * d.im:=rfl
 refine Cx.ext' ?_ ?_
 ·show ((d.re * c.re - d.im * c.im) * d.re - (d.re * c.im + d.im * c.re) * (-d.im)) * d.norm⁻¹ = c.re
  have e:((d.re * c.re - d.im * c.im) * d.re - (d.re * c.im + d.im * c.re) * (-d.im)) * d.norm⁻¹ = (d.norm⁻¹ * (d.re * d.re + d.im * d.im)) * c.re:=by grind
  rw [e,← hd,hi]; grind
 ·show ((d.re * c.re - d.im * c.im) * (-d.im) + (d.re * c.im + d.im * c.re) * d.re) * d.norm⁻¹ = c.im
  have e:((d.re * c.re - d.im * c.im) * (-d.im) + (d.re * c.im + d.im * c.re) * d.re) * d.norm⁻¹ = (d.norm⁻¹ * (d.re * d.re + d.im * d.im)) * c.im:=by grind
  rw [e,← hd,hi]; grind
theorem dv_iff {d a:Cx} (h:d.zero = false):dv d a ↔ isI (a.div d):=by
 constructor
 ·rintro ⟨c,ic,rfl⟩
  rw [div_of_mul h]; exact ic
 ·intro hi
  exact ⟨a.div d,hi,by rw [cmul_comm,div_mul a (zero_norm h)]⟩
structure CombIs (x y d u v:Cx):Prop where
 h:∀ W,Calls Tryz.prog 25 #[gV x,gV y] W (RetV (.tuple #[gV d,gV u,gV v,.int .i64 0]) W)
structure GcdIs (x y d:Cx):Prop where
 h:∀ W,Calls Tryz.prog 24 #[gV x,gV y] W (RetV (.tuple #[gV d,.int .i64 0]) W)
structure DivIs (x y q r:Cx):Prop where
 h:∀ W,Calls Tryz.prog 23 #[gV x,gV y] W (RetV (.tuple #[gV q,gV r,.int .i64 0]) W)
structure MulIs (x y:Cx):Prop where
 h:∀ W,Calls Tryz.prog 38 #[gV x,gV y] W (RetV (.tuple #[gV (x.mul y),.int .i64 0]) W)
structure AddIs (x y:Cx):Prop where
 h:∀ W,Calls Tryz.prog 39 #[gV x,gV y] W (RetV (.tuple #[gV (x.add y),.int .i64 0]) W)
structure TurnIs (x:Cx):Prop where
 h:∀ W,Calls Tryz.prog 43 #[gV x] W (RetV (.tuple #[gV (x.mul (Cx.ofInt (0:Int) (1:Int))),.int .i64 0]) W)
structure NormIs (x:Cx):Prop where
 h:∀ W,Calls Tryz.prog 41 #[gV x] W (RetV (fV x.norm) W)
structure FAddIs (x y:Rat):Prop where
 h:∀ W,Calls Tryz.prog 40 #[fV x,fV y] W (RetV (.tuple #[fV (x + y),.int .i64 0]) W)
structure UnderIs (x y:Rat):Prop where
 h:∀ W,Calls Tryz.prog 42 #[fV x,fV y] W (RetV (.bool true) W)
noncomputable def dvB (d a:Cx):Bool:=gwhole (rg (a.div d))
structure DvdIs (x y:Cx):Prop where
 h:∀ W,Calls Tryz.prog 44 #[gV x,gV y] W (RetV (.bool (dvB x y)) W)
variable {W:World}
theorem iComb {d u v:Cx} (x y:Cx) (p:CombIs x y d u v):Calls Tryz.prog 25 #[gV x,gV y] W (RetV (.tuple #[gV d,gV u,gV v,.int .i64 0]) W):=p.h W
theorem iGcd {d:Cx} (x y:Cx) (p:GcdIs x y d):Calls Tryz.prog 24 #[gV x,gV y] W (RetV (.tuple #[gV d,.int .i64 0]) W):=p.h W
theorem iDiv {q r:Cx} (x y:Cx) (p:DivIs x y q r):Calls Tryz.prog 23 #[gV x,gV y] W (RetV (.tuple #[gV q,gV r,.int .i64 0]) W):=p.h W
theorem iMul (x y:Cx) (p:MulIs x y):Calls Tryz.prog 38 #[gV x,gV y] W (RetV (.tuple #[gV (x.mul y),.int .i64 0]) W):=p.h W
theorem iAdd (x y:Cx) (p:AddIs x y):Calls Tryz.prog 39 #[gV x,gV y] W (RetV (.tuple #[gV (x.add y),.int .i64 0]) W):=p.h W
theorem iTurn (x:Cx) (p:TurnIs x):Calls Tryz.prog 43 #[gV x] W (RetV (.tuple #[gV (x.mul (Cx.ofInt (0:Int) (1:Int))),.int .i64 0]) W):=p.h W
theorem iNorm (x:Cx) (p:NormIs x):Calls Tryz.prog 41 #[gV x] W (RetV (fV x.norm) W):=p.h W
theorem iFAdd (x y:Rat) (p:FAddIs x y):Calls Tryz.prog 40 #[fV x,fV y] W (RetV (.tuple #[fV (x + y),.int .i64 0]) W):=p.h W
theorem iUnder (x y:Rat) (p:UnderIs x y):Calls Tryz.prog 42 #[fV x,fV y] W (RetV (.bool true) W):=p.h W
theorem iDvd (x y:Cx) (p:DvdIs x y):Calls Tryz.prog 44 #[gV x,gV y] W (RetV (.bool (dvB x y)) W):=p.h W
theorem iZero (x:Cx):Calls Tryz.prog 37 #[gV x] W (RetV (.bool x.zero) W):=reV (by
 cases h:x.zero with
 | true=>rw [zero_dec1 h]
 | false=>rw [zero_dec h]) (gaZero (rg x))
theorem len3_le {a b c:RG}:([a,b,c]:List RG).length ≤ 1099511627776:=by simp
end Go.Proofs.YtllohoibifcmdaaGreat
namespace Go.Proofs.YtllohoibifcmdaaGreat
open Go.RowKit Rgn
set_option maxHeartbeats 4000000
set_option maxRecDepth 100000
variable {S:Nat → Prop} {W:World}
theorem lRest0 (r:RG) (q:RG) (t:RG) (p0:wideU (40:Int) ([r,q,t]) = true) :
  Calls Tryz.prog 6 #[rgV r,rgV q,rgV t] W (RetV (.bool true) W):=by
 have bel:=b0 W
 go_enter Tryz.func6,Tryz.ntmps6
 refine gs 4 (Amb Z0 W) fun _ K1=>?_
 refine .bx rfl (fun H=>H.v 0 (rgV r)) ?_
 refine .bx rfl (fun H=>H.v 1 (rgV q)) ?_
 refine .bx rfl (fun H=>H.v 2 (rgV t)) ?_
 refine .mc rfl ?_
 refine .dk (fun u=>rgV r::rgV q::rgV t::sq u 0 4 (us 229)) K1 bel fun u1 w1 D bel=>?_
 obtain ⟨b2,E1_0,A2,B2⟩:=D.nw 0
 obtain ⟨b3,E1_1,A3,B3⟩:=D.nw 1
 obtain ⟨b4,E1_2,A4,B4⟩:=D.nw 2
 have E1_3:=D.q 3
 clear D
 refine wp_seq_k fun _ K5=>?_
 refine wp_seq_k fun _ K6=>?_
 refine wp_region_list ?_
 refine wpT_val (v:=rgV r) rfl (ex_load_row 30 _ rfl (by exact E1_0) B2 Tryz.underlying30 rfl (by kernel_rfl)) ?_
 refine wpList_as (fr (rgV r::rgV q::rgV t::sq u1 0 4 (sq uu 0 25 (rgV r::us 203)))) (by kernel_rfl) ?_
 refine wpT_val (v:=rgV q) rfl (ex_load_row 30 _ rfl (by exact E1_1) B3 Tryz.underlying30 rfl (by kernel_rfl)) ?_
 refine wpList_as (fr (rgV r::rgV q::rgV t::sq u1 0 4 (sq uu 0 25 (rgV r::rgV q::us 202)))) (by kernel_rfl) ?_
 refine wpT_val (v:=rgV t) rfl (ex_load_row 30 _ rfl (by exact E1_2) B4 Tryz.underlying30 rfl (by kernel_rfl)) ?_
 refine wpList_as (fr (rgV r::rgV q::rgV t::sq u1 0 4 (sq uu 0 25 (rgV r::rgV q::rgV t::us 201)))) (by kernel_rfl) ?_
 refine wpT_lit3 (r0:=r) (r1:=q) (r2:=t) rfl rfl rfl rfl rfl fun v8 w7 tw7 mw7 ow7=>?_
 obtain ⟨p_q,c_q,cur_q,T_q,fr_q,rfl,y_q,z_q,P_q,B_q,Q_q⟩:=GSl.open tw7
 replace mw7:=mw7 _ _ _ rfl
 have N_q_b2:=Nat.ne_of_lt (Nat.lt_of_lt_of_le (lt_of B2) mw7)
 have N_q_b3:=Nat.ne_of_lt (Nat.lt_of_lt_of_le (lt_of B3) mw7)
 have N_q_b4:=Nat.ne_of_lt (Nat.lt_of_lt_of_le (lt_of B4) mw7)
 replace B2:=(ow7.block b2 (lt_of B2)).trans B2
 replace B3:=(ow7.block b3 (lt_of B3)).trans B3
 replace B4:=(ow7.block b4 (lt_of B4)).trans B4
 replace bel:=bel.trans (ow7.mono bel.size)
 replace P_q:=Lib.hid P_q
 have X_q:=GSl.lt B_q
 refine wpList_as (fr (rgV r::rgV q::rgV t::sq u1 0 4 (sq uu 0 25 (rgV r::rgV q::rgV t::.slice p_q ([r,q,t]).length c_q::us 200)))) (by kernel_rfl) ?_
 refine wpT_callKW (V:=.bool true) (wanted_none rfl _) (ex_call rfl rfl Tryz.func8 (by kernel_rfl) (by kernel_rfl) (by simp only [List.map_toArray,List.map_cons,List.map_nil]; rfl)) (reV (congrArg Value.bool p0) (lWide (most:=(40:Int)) (l:=[r,q,t]) (GSl.mk y_q z_q P_q.out B_q Q_q) (by first | omega | exact len3_le))) fun w9 ow9=>?_
 replace B2:=(ow9.block b2 (lt_of B2)).trans B2
 replace B3:=(ow9.block b3 (lt_of B3)).trans B3
 replace B4:=(ow9.block b4 (lt_of B4)).trans B4
 replace B_q:=fun h=>(ow9.block _ (lt_of (B_q h))).trans (B_q h)
 replace bel:=bel.trans (ow9.mono bel.size)
 refine wpList_as (fr (rgV r::rgV q::rgV t::sq u1 0 4 (sq uu 0 25 (rgV r::rgV q::rgV t::.slice p_q ([r,q,t]).length c_q::.bool true::us 199)))) (by kernel_rfl) ?_
 refine wpT_val rfl (ex_move rfl) ?_
 refine wpList_as (fr (rgV r::rgV q::rgV t::sq u1 0 4 (sq uu 0 25 (rgV r::rgV q::rgV t::.slice p_q ([r,q,t]).length c_q::.bool true::.bool true::us 198)))) (by kernel_rfl) ?_
 refine wpT_skipW (by kernel_rfl) ?_
 refine wpList_as (fr (rgV r::rgV q::rgV t::sq u1 0 4 (sq uu 0 25 (rgV r::rgV q::rgV t::.slice p_q ([r,q,t]).length c_q::.bool true::.bool true::us 198)))) (by kernel_rfl) ?_
 refine wpT_skipW (by kernel_rfl) ?_
 refine wpList_as (fr (rgV r::rgV q::rgV t::sq u1 0 4 (sq uu 0 25 (rgV r::rgV q::rgV t::.slice p_q ([r,q,t]).length c_q::.bool true::.bool true::us 198)))) (by kernel_rfl) ?_
 refine wpT_skipW (by kernel_rfl) ?_
 refine wpList_as (fr (rgV r::rgV q::rgV t::sq u1 0 4 (sq uu 0 25 (rgV r::rgV q::rgV t::.slice p_q ([r,q,t]).length c_q::.bool true::.bool true::us 198)))) (by kernel_rfl) ?_
 refine wpT_val (v:=.bool true) rfl (by go_simp) ?_
 refine wpList_as (fr (rgV r::rgV q::rgV t::sq u1 0 4 (sq uu 0 25 (rgV r::rgV q::rgV t::.slice p_q ([r,q,t]).length c_q::.bool true::.bool true::U::U::U::.bool true::us 194)))) (by kernel_rfl) ?_
 refine wpT_val rfl (ex_move rfl) ?_
 refine wpList_as (fr (rgV r::rgV q::rgV t::sq u1 0 4 (sq uu 0 25 (rgV r::rgV q::rgV t::.slice p_q ([r,q,t]).length c_q::.bool true::.bool true::U::U::U::.bool true::.bool true::us 193)))) (by kernel_rfl) ?_
 refine wpT_skipW (by kernel_rfl) ?_
 refine wpList_as (fr (rgV r::rgV q::rgV t::sq u1 0 4 (sq uu 0 25 (rgV r::rgV q::rgV t::.slice p_q ([r,q,t]).length c_q::.bool true::.bool true::U::U::U::.bool true::.bool true::us 193)))) (by kernel_rfl) ?_
 refine wpT_skipW (by kernel_rfl) ?_
 refine wpList_as (fr (rgV r::rgV q::rgV t::sq u1 0 4 (sq uu 0 25 (rgV r::rgV q::rgV t::.slice p_q ([r,q,t]).length c_q::.bool true::.bool true::U::U::U::.bool true::.bool true::us 193)))) (by kernel_rfl) ?_
 refine wpT_skipW (by kernel_rfl) ?_
 refine wpList_as (fr (rgV r::rgV q::rgV t::sq u1 0 4 (sq uu 0 25 (rgV r::rgV q::rgV t::.slice p_q ([r,q,t]).length c_q::.bool true::.bool true::U::U::U::.bool true::.bool true::us 193)))) (by kernel_rfl) ?_
 refine wpT_val (v:=.bool true) rfl (by go_simp) ?_
 refine wpList_as (fr (rgV r::rgV q::rgV t::sq u1 0 4 (sq uu 0 25 (rgV r::rgV q::rgV t::.slice p_q ([r,q,t]).length c_q::.bool true::.bool true::U::U::U::.bool true::.bool true::U::U::U::.bool true::us 189)))) (by kernel_rfl) ?_
 refine wpT_val rfl (ex_move rfl) ?_
 refine wpList_as (fr (rgV r::rgV q::rgV t::sq u1 0 4 (sq uu 0 25 (rgV r::rgV q::rgV t::.slice p_q ([r,q,t]).length c_q::.bool true::.bool true::U::U::U::.bool true::.bool true::U::U::U::.bool true::.bool true::us 188)))) (by kernel_rfl) ?_
 refine wpT_skipW (by kernel_rfl) ?_
 refine wpList_as (fr (rgV r::rgV q::rgV t::sq u1 0 4 (sq uu 0 25 (rgV r::rgV q::rgV t::.slice p_q ([r,q,t]).length c_q::.bool true::.bool true::U::U::U::.bool true::.bool true::U::U::U::.bool true::.bool true::us 188)))) (by kernel_rfl) ?_
 refine wpT_skipW (by kernel_rfl) ?_
 refine wpList_as (fr (rgV r::rgV q::rgV t::sq u1 0 4 (sq uu 0 25 (rgV r::rgV q::rgV t::.slice p_q ([r,q,t]).length c_q::.bool true::.bool true::U::U::U::.bool true::.bool true::U::U::U::.bool true::.bool true::us 188)))) (by kernel_rfl) ?_
 refine wpT_skipW (by kernel_rfl) ?_
 refine wpList_as (fr (rgV r::rgV q::rgV t::sq u1 0 4 (sq uu 0 25 (rgV r::rgV q::rgV t::.slice p_q ([r,q,t]).length c_q::.bool true::.bool true::U::U::U::.bool true::.bool true::U::U::U::.bool true::.bool true::us 188)))) (by kernel_rfl) ?_
 refine wpT_val (v:=.bool true) rfl (by go_simp) ?_
 refine wpList_as (fr (rgV r::rgV q::rgV t::sq u1 0 4 (sq uu 0 25 (rgV r::rgV q::rgV t::.slice p_q ([r,q,t]).length c_q::.bool true::.bool true::U::U::U::.bool true::.bool true::U::U::U::.bool true::.bool true::U::U::U::.bool true::us 184)))) (by kernel_rfl) ?_
 refine wpList_nil ?_
 show _
 refine K6 _ _ ?_
 refine wp_cond_true rfl ?_
 refine gs 2 (Amb Z0 W) fun _ K10=>?_
 refine .cK rfl Tryz.func9 (fun H=>⟨_,ar0,lKnown⟩) ?_
 refine .mv rfl 0 ?_
 refine .dk (fun u=>rgV r::rgV q::rgV t::sq u1 0 3 (u 1::sq uu 0 25 (rgV r::rgV q::rgV t::.slice p_q ([r,q,t]).length c_q::.bool true::.bool true::U::U::U::.bool true::.bool true::U::U::U::.bool true::.bool true::U::U::U::.bool true::u 0::us 183))) K10 bel fun u3 w3 D bel=>?_
 have E3_1:=D.q 1
 replace B_q:=fun h=>D.k (B_q h)
 clear D
 exact wp_ret (rt rfl E3_1 rfl bel)
theorem lRest1 (r:RG) (q:RG) (t:RG) (p0:wideU (40:Int) ([r,q,t]) = false) (p1:gwhole r = false) :
  Calls Tryz.prog 6 #[rgV r,rgV q,rgV t] W (RetV (.bool true) W):=by
 have bel:=b0 W
 go_enter Tryz.func6,Tryz.ntmps6
 refine gs 4 (Amb Z0 W) fun _ K1=>?_
 refine .bx rfl (fun H=>H.v 0 (rgV r)) ?_
 refine .bx rfl (fun H=>H.v 1 (rgV q)) ?_
 refine .bx rfl (fun H=>H.v 2 (rgV t)) ?_
 refine .mc rfl ?_
 refine .dk (fun u=>rgV r::rgV q::rgV t::sq u 0 4 (us 229)) K1 bel fun u1 w1 D bel=>?_
 obtain ⟨b2,E1_0,A2,B2⟩:=D.nw 0
 obtain ⟨b3,E1_1,A3,B3⟩:=D.nw 1
 obtain ⟨b4,E1_2,A4,B4⟩:=D.nw 2
 have E1_3:=D.q 3
 clear D
 refine wp_seq_k fun _ K5=>?_
 refine wp_seq_k fun _ K6=>?_
 refine wp_region_list ?_
 refine wpT_val (v:=rgV r) rfl (ex_load_row 30 _ rfl (by exact E1_0) B2 Tryz.underlying30 rfl (by kernel_rfl)) ?_
 refine wpList_as (fr (rgV r::rgV q::rgV t::sq u1 0 4 (sq uu 0 25 (rgV r::us 203)))) (by kernel_rfl) ?_
 refine wpT_val (v:=rgV q) rfl (ex_load_row 30 _ rfl (by exact E1_1) B3 Tryz.underlying30 rfl (by kernel_rfl)) ?_
 refine wpList_as (fr (rgV r::rgV q::rgV t::sq u1 0 4 (sq uu 0 25 (rgV r::rgV q::us 202)))) (by kernel_rfl) ?_
 refine wpT_val (v:=rgV t) rfl (ex_load_row 30 _ rfl (by exact E1_2) B4 Tryz.underlying30 rfl (by kernel_rfl)) ?_
 refine wpList_as (fr (rgV r::rgV q::rgV t::sq u1 0 4 (sq uu 0 25 (rgV r::rgV q::rgV t::us 201)))) (by kernel_rfl) ?_
 refine wpT_lit3 (r0:=r) (r1:=q) (r2:=t) rfl rfl rfl rfl rfl fun v8 w7 tw7 mw7 ow7=>?_
 obtain ⟨p_q,c_q,cur_q,T_q,fr_q,rfl,y_q,z_q,P_q,B_q,Q_q⟩:=GSl.open tw7
 replace mw7:=mw7 _ _ _ rfl
 have N_q_b2:=Nat.ne_of_lt (Nat.lt_of_lt_of_le (lt_of B2) mw7)
 have N_q_b3:=Nat.ne_of_lt (Nat.lt_of_lt_of_le (lt_of B3) mw7)
 have N_q_b4:=Nat.ne_of_lt (Nat.lt_of_lt_of_le (lt_of B4) mw7)
 replace B2:=(ow7.block b2 (lt_of B2)).trans B2
 replace B3:=(ow7.block b3 (lt_of B3)).trans B3
 replace B4:=(ow7.block b4 (lt_of B4)).trans B4
 replace bel:=bel.trans (ow7.mono bel.size)
 replace P_q:=Lib.hid P_q
 have X_q:=GSl.lt B_q
 refine wpList_as (fr (rgV r::rgV q::rgV t::sq u1 0 4 (sq uu 0 25 (rgV r::rgV q::rgV t::.slice p_q ([r,q,t]).length c_q::us 200)))) (by kernel_rfl) ?_
 refine wpT_callKW (V:=.bool false) (wanted_none rfl _) (ex_call rfl rfl Tryz.func8 (by kernel_rfl) (by kernel_rfl) (by simp only [List.map_toArray,List.map_cons,List.map_nil]; rfl)) (reV (congrArg Value.bool p0) (lWide (most:=(40:Int)) (l:=[r,q,t]) (GSl.mk y_q z_q P_q.out B_q Q_q) (by first | omega | exact len3_le))) fun w9 ow9=>?_
 replace B2:=(ow9.block b2 (lt_of B2)).trans B2
 replace B3:=(ow9.block b3 (lt_of B3)).trans B3
 replace B4:=(ow9.block b4 (lt_of B4)).trans B4
 replace B_q:=fun h=>(ow9.block _ (lt_of (B_q h))).trans (B_q h)
 replace bel:=bel.trans (ow9.mono bel.size)
 refine wpList_as (fr (rgV r::rgV q::rgV t::sq u1 0 4 (sq uu 0 25 (rgV r::rgV q::rgV t::.slice p_q ([r,q,t]).length c_q::.bool false::us 199)))) (by kernel_rfl) ?_
 refine wpT_val rfl (ex_move rfl) ?_
 refine wpList_as (fr (rgV r::rgV q::rgV t::sq u1 0 4 (sq uu 0 25 (rgV r::rgV q::rgV t::.slice p_q ([r,q,t]).length c_q::.bool false::.bool false::us 198)))) (by kernel_rfl) ?_
 refine wpT_valW (v:=rgV r) (by kernel_rfl) (ex_load_row 30 _ rfl (by exact E1_0) B2 Tryz.underlying30 rfl (by kernel_rfl)) ?_
 refine wpList_as (fr (rgV r::rgV q::rgV t::sq u1 0 4 (sq uu 0 25 (rgV r::rgV q::rgV t::.slice p_q ([r,q,t]).length c_q::.bool false::.bool false::rgV r::us 197)))) (by kernel_rfl) ?_
 refine wpT_callKW (V:=.bool false) (by kernel_rfl) (ex_call rfl rfl Tryz.func28 (by kernel_rfl) (by kernel_rfl) (by simp only [List.map_toArray,List.map_cons,List.map_nil]; rfl)) (reV (congrArg Value.bool p1) (hWhole (r:=r)  )) fun w10 ow10=>?_
 replace B2:=(ow10.block b2 (lt_of B2)).trans B2
 replace B3:=(ow10.block b3 (lt_of B3)).trans B3
 replace B4:=(ow10.block b4 (lt_of B4)).trans B4
 replace B_q:=fun h=>(ow10.block _ (lt_of (B_q h))).trans (B_q h)
 replace bel:=bel.trans (ow10.mono bel.size)
 refine wpList_as (fr (rgV r::rgV q::rgV t::sq u1 0 4 (sq uu 0 25 (rgV r::rgV q::rgV t::.slice p_q ([r,q,t]).length c_q::.bool false::.bool false::rgV r::.bool false::us 196)))) (by kernel_rfl) ?_
 refine wpT_valW (v:=.bool true) (by kernel_rfl) (by go_simp) ?_
 refine wpList_as (fr (rgV r::rgV q::rgV t::sq u1 0 4 (sq uu 0 25 (rgV r::rgV q::rgV t::.slice p_q ([r,q,t]).length c_q::.bool false::.bool false::rgV r::.bool false::.bool true::us 195)))) (by kernel_rfl) ?_
 refine wpT_val (v:=.bool true) rfl (by go_simp) ?_
 refine wpList_as (fr (rgV r::rgV q::rgV t::sq u1 0 4 (sq uu 0 25 (rgV r::rgV q::rgV t::.slice p_q ([r,q,t]).length c_q::.bool false::.bool false::rgV r::.bool false::.bool true::.bool true::us 194)))) (by kernel_rfl) ?_
 refine wpT_val rfl (ex_move rfl) ?_
 refine wpList_as (fr (rgV r::rgV q::rgV t::sq u1 0 4 (sq uu 0 25 (rgV r::rgV q::rgV t::.slice p_q ([r,q,t]).length c_q::.bool false::.bool false::rgV r::.bool false::.bool true::.bool true::.bool true::us 193)))) (by kernel_rfl) ?_
 refine wpT_skipW (by kernel_rfl) ?_
 refine wpList_as (fr (rgV r::rgV q::rgV t::sq u1 0 4 (sq uu 0 25 (rgV r::rgV q::rgV t::.slice p_q ([r,q,t]).length c_q::.bool false::.bool false::rgV r::.bool false::.bool true::.bool true::.bool true::us 193)))) (by kernel_rfl) ?_
 refine wpT_skipW (by kernel_rfl) ?_
 refine wpList_as (fr (rgV r::rgV q::rgV t::sq u1 0 4 (sq uu 0 25 (rgV r::rgV q::rgV t::.slice p_q ([r,q,t]).length c_q::.bool false::.bool false::rgV r::.bool false::.bool true::.bool true::.bool true::us 193)))) (by kernel_rfl) ?_
 refine wpT_skipW (by kernel_rfl) ?_
 refine wpList_as (fr (rgV r::rgV q::rgV t::sq u1 0 4 (sq uu 0 25 (rgV r::rgV q::rgV t::.slice p_q ([r,q,t]).length c_q::.bool false::.bool false::rgV r::.bool false::.bool true::.bool true::.bool true::us 193)))) (by kernel_rfl) ?_
 refine wpT_val (v:=.bool true) rfl (by go_simp) ?_
 refine wpList_as (fr (rgV r::rgV q::rgV t::sq u1 0 4 (sq uu 0 25 (rgV r::rgV q::rgV t::.slice p_q ([r,q,t]).length c_q::.bool false::.bool false::rgV r::.bool false::.bool true::.bool true::.bool true::U::U::U::.bool true::us 189)))) (by kernel_rfl) ?_
 refine wpT_val rfl (ex_move rfl) ?_
 refine wpList_as (fr (rgV r::rgV q::rgV t::sq u1 0 4 (sq uu 0 25 (rgV r::rgV q::rgV t::.slice p_q ([r,q,t]).length c_q::.bool false::.bool false::rgV r::.bool false::.bool true::.bool true::.bool true::U::U::U::.bool true::.bool true::us 188)))) (by kernel_rfl) ?_
 refine wpT_skipW (by kernel_rfl) ?_
 refine wpList_as (fr (rgV r::rgV q::rgV t::sq u1 0 4 (sq uu 0 25 (rgV r::rgV q::rgV t::.slice p_q ([r,q,t]).length c_q::.bool false::.bool false::rgV r::.bool false::.bool true::.bool true::.bool true::U::U::U::.bool true::.bool true::us 188)))) (by kernel_rfl) ?_
 refine wpT_skipW (by kernel_rfl) ?_
 refine wpList_as (fr (rgV r::rgV q::rgV t::sq u1 0 4 (sq uu 0 25 (rgV r::rgV q::rgV t::.slice p_q ([r,q,t]).length c_q::.bool false::.bool false::rgV r::.bool false::.bool true::.bool true::.bool true::U::U::U::.bool true::.bool true::us 188)))) (by kernel_rfl) ?_
 refine wpT_skipW (by kernel_rfl) ?_
 refine wpList_as (fr (rgV r::rgV q::rgV t::sq u1 0 4 (sq uu 0 25 (rgV r::rgV q::rgV t::.slice p_q ([r,q,t]).length c_q::.bool false::.bool false::rgV r::.bool false::.bool true::.bool true::.bool true::U::U::U::.bool true::.bool true::us 188)))) (by kernel_rfl) ?_
 refine wpT_val (v:=.bool true) rfl (by go_simp) ?_
 refine wpList_as (fr (rgV r::rgV q::rgV t::sq u1 0 4 (sq uu 0 25 (rgV r::rgV q::rgV t::.slice p_q ([r,q,t]).length c_q::.bool false::.bool false::rgV r::.bool false::.bool true::.bool true::.bool true::U::U::U::.bool true::.bool true::U::U::U::.bool true::us 184)))) (by kernel_rfl) ?_
 refine wpList_nil ?_
 show _
 refine K6 _ _ ?_
 refine wp_cond_true rfl ?_
 refine gs 2 (Amb Z0 W) fun _ K11=>?_
 refine .cK rfl Tryz.func9 (fun H=>⟨_,ar0,lKnown⟩) ?_
 refine .mv rfl 0 ?_
 refine .dk (fun u=>rgV r::rgV q::rgV t::sq u1 0 3 (u 1::sq uu 0 25 (rgV r::rgV q::rgV t::.slice p_q ([r,q,t]).length c_q::.bool false::.bool false::rgV r::.bool false::.bool true::.bool true::.bool true::U::U::U::.bool true::.bool true::U::U::U::.bool true::u 0::us 183))) K11 bel fun u3 w3 D bel=>?_
 have E3_1:=D.q 1
 replace B_q:=fun h=>D.k (B_q h)
 clear D
 exact wp_ret (rt rfl E3_1 rfl bel)
theorem lRest2 (r:RG) (q:RG) (t:RG) (p0:wideU (40:Int) ([r,q,t]) = false) (p1:gwhole r = true) (p2:gwhole q = false) :
  Calls Tryz.prog 6 #[rgV r,rgV q,rgV t] W (RetV (.bool true) W):=by
 have bel:=b0 W
 go_enter Tryz.func6,Tryz.ntmps6
 refine gs 4 (Amb Z0 W) fun _ K1=>?_
 refine .bx rfl (fun H=>H.v 0 (rgV r)) ?_
 refine .bx rfl (fun H=>H.v 1 (rgV q)) ?_
 refine .bx rfl (fun H=>H.v 2 (rgV t)) ?_
 refine .mc rfl ?_
 refine .dk (fun u=>rgV r::rgV q::rgV t::sq u 0 4 (us 229)) K1 bel fun u1 w1 D bel=>?_
 obtain ⟨b2,E1_0,A2,B2⟩:=D.nw 0
 obtain ⟨b3,E1_1,A3,B3⟩:=D.nw 1
 obtain ⟨b4,E1_2,A4,B4⟩:=D.nw 2
 have E1_3:=D.q 3
 clear D
 refine wp_seq_k fun _ K5=>?_
 refine wp_seq_k fun _ K6=>?_
 refine wp_region_list ?_
 refine wpT_val (v:=rgV r) rfl (ex_load_row 30 _ rfl (by exact E1_0) B2 Tryz.underlying30 rfl (by kernel_rfl)) ?_
 refine wpList_as (fr (rgV r::rgV q::rgV t::sq u1 0 4 (sq uu 0 25 (rgV r::us 203)))) (by kernel_rfl) ?_
 refine wpT_val (v:=rgV q) rfl (ex_load_row 30 _ rfl (by exact E1_1) B3 Tryz.underlying30 rfl (by kernel_rfl)) ?_
 refine wpList_as (fr (rgV r::rgV q::rgV t::sq u1 0 4 (sq uu 0 25 (rgV r::rgV q::us 202)))) (by kernel_rfl) ?_
 refine wpT_val (v:=rgV t) rfl (ex_load_row 30 _ rfl (by exact E1_2) B4 Tryz.underlying30 rfl (by kernel_rfl)) ?_
 refine wpList_as (fr (rgV r::rgV q::rgV t::sq u1 0 4 (sq uu 0 25 (rgV r::rgV q::rgV t::us 201)))) (by kernel_rfl) ?_
 refine wpT_lit3 (r0:=r) (r1:=q) (r2:=t) rfl rfl rfl rfl rfl fun v8 w7 tw7 mw7 ow7=>?_
 obtain ⟨p_q,c_q,cur_q,T_q,fr_q,rfl,y_q,z_q,P_q,B_q,Q_q⟩:=GSl.open tw7
 replace mw7:=mw7 _ _ _ rfl
 have N_q_b2:=Nat.ne_of_lt (Nat.lt_of_lt_of_le (lt_of B2) mw7)
 have N_q_b3:=Nat.ne_of_lt (Nat.lt_of_lt_of_le (lt_of B3) mw7)
 have N_q_b4:=Nat.ne_of_lt (Nat.lt_of_lt_of_le (lt_of B4) mw7)
 replace B2:=(ow7.block b2 (lt_of B2)).trans B2
 replace B3:=(ow7.block b3 (lt_of B3)).trans B3
 replace B4:=(ow7.block b4 (lt_of B4)).trans B4
 replace bel:=bel.trans (ow7.mono bel.size)
 replace P_q:=Lib.hid P_q
 have X_q:=GSl.lt B_q
 refine wpList_as (fr (rgV r::rgV q::rgV t::sq u1 0 4 (sq uu 0 25 (rgV r::rgV q::rgV t::.slice p_q ([r,q,t]).length c_q::us 200)))) (by kernel_rfl) ?_
 refine wpT_callKW (V:=.bool false) (wanted_none rfl _) (ex_call rfl rfl Tryz.func8 (by kernel_rfl) (by kernel_rfl) (by simp only [List.map_toArray,List.map_cons,List.map_nil]; rfl)) (reV (congrArg Value.bool p0) (lWide (most:=(40:Int)) (l:=[r,q,t]) (GSl.mk y_q z_q P_q.out B_q Q_q) (by first | omega | exact len3_le))) fun w9 ow9=>?_
 replace B2:=(ow9.block b2 (lt_of B2)).trans B2
 replace B3:=(ow9.block b3 (lt_of B3)).trans B3
 replace B4:=(ow9.block b4 (lt_of B4)).trans B4
 replace B_q:=fun h=>(ow9.block _ (lt_of (B_q h))).trans (B_q h)
 replace bel:=bel.trans (ow9.mono bel.size)
 refine wpList_as (fr (rgV r::rgV q::rgV t::sq u1 0 4 (sq uu 0 25 (rgV r::rgV q::rgV t::.slice p_q ([r,q,t]).length c_q::.bool false::us 199)))) (by kernel_rfl) ?_
 refine wpT_val rfl (ex_move rfl) ?_
 refine wpList_as (fr (rgV r::rgV q::rgV t::sq u1 0 4 (sq uu 0 25 (rgV r::rgV q::rgV t::.slice p_q ([r,q,t]).length c_q::.bool false::.bool false::us 198)))) (by kernel_rfl) ?_
 refine wpT_valW (v:=rgV r) (by kernel_rfl) (ex_load_row 30 _ rfl (by exact E1_0) B2 Tryz.underlying30 rfl (by kernel_rfl)) ?_
 refine wpList_as (fr (rgV r::rgV q::rgV t::sq u1 0 4 (sq uu 0 25 (rgV r::rgV q::rgV t::.slice p_q ([r,q,t]).length c_q::.bool false::.bool false::rgV r::us 197)))) (by kernel_rfl) ?_
 refine wpT_callKW (V:=.bool true) (by kernel_rfl) (ex_call rfl rfl Tryz.func28 (by kernel_rfl) (by kernel_rfl) (by simp only [List.map_toArray,List.map_cons,List.map_nil]; rfl)) (reV (congrArg Value.bool p1) (hWhole (r:=r)  )) fun w10 ow10=>?_
 replace B2:=(ow10.block b2 (lt_of B2)).trans B2
 replace B3:=(ow10.block b3 (lt_of B3)).trans B3
 replace B4:=(ow10.block b4 (lt_of B4)).trans B4
 replace B_q:=fun h=>(ow10.block _ (lt_of (B_q h))).trans (B_q h)
 replace bel:=bel.trans (ow10.mono bel.size)
 refine wpList_as (fr (rgV r::rgV q::rgV t::sq u1 0 4 (sq uu 0 25 (rgV r::rgV q::rgV t::.slice p_q ([r,q,t]).length c_q::.bool false::.bool false::rgV r::.bool true::us 196)))) (by kernel_rfl) ?_
 refine wpT_valW (v:=.bool false) (by kernel_rfl) (by go_simp) ?_
 refine wpList_as (fr (rgV r::rgV q::rgV t::sq u1 0 4 (sq uu 0 25 (rgV r::rgV q::rgV t::.slice p_q ([r,q,t]).length c_q::.bool false::.bool false::rgV r::.bool true::.bool false::us 195)))) (by kernel_rfl) ?_
 refine wpT_val (v:=.bool false) rfl (by go_simp) ?_
 refine wpList_as (fr (rgV r::rgV q::rgV t::sq u1 0 4 (sq uu 0 25 (rgV r::rgV q::rgV t::.slice p_q ([r,q,t]).length c_q::.bool false::.bool false::rgV r::.bool true::.bool false::.bool false::us 194)))) (by kernel_rfl) ?_
 refine wpT_val rfl (ex_move rfl) ?_
 refine wpList_as (fr (rgV r::rgV q::rgV t::sq u1 0 4 (sq uu 0 25 (rgV r::rgV q::rgV t::.slice p_q ([r,q,t]).length c_q::.bool false::.bool false::rgV r::.bool true::.bool false::.bool false::.bool false::us 193)))) (by kernel_rfl) ?_
 refine wpT_valW (v:=rgV q) (by kernel_rfl) (ex_load_row 30 _ rfl (by exact E1_1) B3 Tryz.underlying30 rfl (by kernel_rfl)) ?_
 refine wpList_as (fr (rgV r::rgV q::rgV t::sq u1 0 4 (sq uu 0 25 (rgV r::rgV q::rgV t::.slice p_q ([r,q,t]).length c_q::.bool false::.bool false::rgV r::.bool true::.bool false::.bool false::.bool false::rgV q::us 192)))) (by kernel_rfl) ?_
 refine wpT_callKW (V:=.bool false) (by kernel_rfl) (ex_call rfl rfl Tryz.func28 (by kernel_rfl) (by kernel_rfl) (by simp only [List.map_toArray,List.map_cons,List.map_nil]; rfl)) (reV (congrArg Value.bool p2) (hWhole (r:=q)  )) fun w11 ow11=>?_
 replace B2:=(ow11.block b2 (lt_of B2)).trans B2
 replace B3:=(ow11.block b3 (lt_of B3)).trans B3
 replace B4:=(ow11.block b4 (lt_of B4)).trans B4
 replace B_q:=fun h=>(ow11.block _ (lt_of (B_q h))).trans (B_q h)
 replace bel:=bel.trans (ow11.mono bel.size)
 refine wpList_as (fr (rgV r::rgV q::rgV t::sq u1 0 4 (sq uu 0 25 (rgV r::rgV q::rgV t::.slice p_q ([r,q,t]).length c_q::.bool false::.bool false::rgV r::.bool true::.bool false::.bool false::.bool false::rgV q::.bool false::us 191)))) (by kernel_rfl) ?_
 refine wpT_valW (v:=.bool true) (by kernel_rfl) (by go_simp) ?_
 refine wpList_as (fr (rgV r::rgV q::rgV t::sq u1 0 4 (sq uu 0 25 (rgV r::rgV q::rgV t::.slice p_q ([r,q,t]).length c_q::.bool false::.bool false::rgV r::.bool true::.bool false::.bool false::.bool false::rgV q::.bool false::.bool true::us 190)))) (by kernel_rfl) ?_
 refine wpT_val (v:=.bool true) rfl (by go_simp) ?_
 refine wpList_as (fr (rgV r::rgV q::rgV t::sq u1 0 4 (sq uu 0 25 (rgV r::rgV q::rgV t::.slice p_q ([r,q,t]).length c_q::.bool false::.bool false::rgV r::.bool true::.bool false::.bool false::.bool false::rgV q::.bool false::.bool true::.bool true::us 189)))) (by kernel_rfl) ?_
 refine wpT_val rfl (ex_move rfl) ?_
 refine wpList_as (fr (rgV r::rgV q::rgV t::sq u1 0 4 (sq uu 0 25 (rgV r::rgV q::rgV t::.slice p_q ([r,q,t]).length c_q::.bool false::.bool false::rgV r::.bool true::.bool false::.bool false::.bool false::rgV q::.bool false::.bool true::.bool true::.bool true::us 188)))) (by kernel_rfl) ?_
 refine wpT_skipW (by kernel_rfl) ?_
 refine wpList_as (fr (rgV r::rgV q::rgV t::sq u1 0 4 (sq uu 0 25 (rgV r::rgV q::rgV t::.slice p_q ([r,q,t]).length c_q::.bool false::.bool false::rgV r::.bool true::.bool false::.bool false::.bool false::rgV q::.bool false::.bool true::.bool true::.bool true::us 188)))) (by kernel_rfl) ?_
 refine wpT_skipW (by kernel_rfl) ?_
 refine wpList_as (fr (rgV r::rgV q::rgV t::sq u1 0 4 (sq uu 0 25 (rgV r::rgV q::rgV t::.slice p_q ([r,q,t]).length c_q::.bool false::.bool false::rgV r::.bool true::.bool false::.bool false::.bool false::rgV q::.bool false::.bool true::.bool true::.bool true::us 188)))) (by kernel_rfl) ?_
 refine wpT_skipW (by kernel_rfl) ?_
 refine wpList_as (fr (rgV r::rgV q::rgV t::sq u1 0 4 (sq uu 0 25 (rgV r::rgV q::rgV t::.slice p_q ([r,q,t]).length c_q::.bool false::.bool false::rgV r::.bool true::.bool false::.bool false::.bool false::rgV q::.bool false::.bool true::.bool true::.bool true::us 188)))) (by kernel_rfl) ?_
 refine wpT_val (v:=.bool true) rfl (by go_simp) ?_
 refine wpList_as (fr (rgV r::rgV q::rgV t::sq u1 0 4 (sq uu 0 25 (rgV r::rgV q::rgV t::.slice p_q ([r,q,t]).length c_q::.bool false::.bool false::rgV r::.bool true::.bool false::.bool false::.bool false::rgV q::.bool false::.bool true::.bool true::.bool true::U::U::U::.bool true::us 184)))) (by kernel_rfl) ?_
 refine wpList_nil ?_
 show _
 refine K6 _ _ ?_
 refine wp_cond_true rfl ?_
 refine gs 2 (Amb Z0 W) fun _ K12=>?_
 refine .cK rfl Tryz.func9 (fun H=>⟨_,ar0,lKnown⟩) ?_
 refine .mv rfl 0 ?_
 refine .dk (fun u=>rgV r::rgV q::rgV t::sq u1 0 3 (u 1::sq uu 0 25 (rgV r::rgV q::rgV t::.slice p_q ([r,q,t]).length c_q::.bool false::.bool false::rgV r::.bool true::.bool false::.bool false::.bool false::rgV q::.bool false::.bool true::.bool true::.bool true::U::U::U::.bool true::u 0::us 183))) K12 bel fun u3 w3 D bel=>?_
 have E3_1:=D.q 1
 replace B_q:=fun h=>D.k (B_q h)
 clear D
 exact wp_ret (rt rfl E3_1 rfl bel)
theorem lRest3 (r:RG) (q:RG) (t:RG) (p0:wideU (40:Int) ([r,q,t]) = false) (p1:gwhole r = true) (p2:gwhole q = true) (p3:gwhole t = false) :
  Calls Tryz.prog 6 #[rgV r,rgV q,rgV t] W (RetV (.bool true) W):=by
 have bel:=b0 W
 go_enter Tryz.func6,Tryz.ntmps6
 refine gs 4 (Amb Z0 W) fun _ K1=>?_
 refine .bx rfl (fun H=>H.v 0 (rgV r)) ?_
 refine .bx rfl (fun H=>H.v 1 (rgV q)) ?_
 refine .bx rfl (fun H=>H.v 2 (rgV t)) ?_
 refine .mc rfl ?_
 refine .dk (fun u=>rgV r::rgV q::rgV t::sq u 0 4 (us 229)) K1 bel fun u1 w1 D bel=>?_
 obtain ⟨b2,E1_0,A2,B2⟩:=D.nw 0
 obtain ⟨b3,E1_1,A3,B3⟩:=D.nw 1
 obtain ⟨b4,E1_2,A4,B4⟩:=D.nw 2
 have E1_3:=D.q 3
 clear D
 refine wp_seq_k fun _ K5=>?_
 refine wp_seq_k fun _ K6=>?_
 refine wp_region_list ?_
 refine wpT_val (v:=rgV r) rfl (ex_load_row 30 _ rfl (by exact E1_0) B2 Tryz.underlying30 rfl (by kernel_rfl)) ?_
 refine wpList_as (fr (rgV r::rgV q::rgV t::sq u1 0 4 (sq uu 0 25 (rgV r::us 203)))) (by kernel_rfl) ?_
 refine wpT_val (v:=rgV q) rfl (ex_load_row 30 _ rfl (by exact E1_1) B3 Tryz.underlying30 rfl (by kernel_rfl)) ?_
 refine wpList_as (fr (rgV r::rgV q::rgV t::sq u1 0 4 (sq uu 0 25 (rgV r::rgV q::us 202)))) (by kernel_rfl) ?_
 refine wpT_val (v:=rgV t) rfl (ex_load_row 30 _ rfl (by exact E1_2) B4 Tryz.underlying30 rfl (by kernel_rfl)) ?_
 refine wpList_as (fr (rgV r::rgV q::rgV t::sq u1 0 4 (sq uu 0 25 (rgV r::rgV q::rgV t::us 201)))) (by kernel_rfl) ?_
 refine wpT_lit3 (r0:=r) (r1:=q) (r2:=t) rfl rfl rfl rfl rfl fun v8 w7 tw7 mw7 ow7=>?_
 obtain ⟨p_q,c_q,cur_q,T_q,fr_q,rfl,y_q,z_q,P_q,B_q,Q_q⟩:=GSl.open tw7
 replace mw7:=mw7 _ _ _ rfl
 have N_q_b2:=Nat.ne_of_lt (Nat.lt_of_lt_of_le (lt_of B2) mw7)
 have N_q_b3:=Nat.ne_of_lt (Nat.lt_of_lt_of_le (lt_of B3) mw7)
 have N_q_b4:=Nat.ne_of_lt (Nat.lt_of_lt_of_le (lt_of B4) mw7)
 replace B2:=(ow7.block b2 (lt_of B2)).trans B2
 replace B3:=(ow7.block b3 (lt_of B3)).trans B3
 replace B4:=(ow7.block b4 (lt_of B4)).trans B4
 replace bel:=bel.trans (ow7.mono bel.size)
 replace P_q:=Lib.hid P_q
 have X_q:=GSl.lt B_q
 refine wpList_as (fr (rgV r::rgV q::rgV t::sq u1 0 4 (sq uu 0 25 (rgV r::rgV q::rgV t::.slice p_q ([r,q,t]).length c_q::us 200)))) (by kernel_rfl) ?_
 refine wpT_callKW (V:=.bool false) (wanted_none rfl _) (ex_call rfl rfl Tryz.func8 (by kernel_rfl) (by kernel_rfl) (by simp only [List.map_toArray,List.map_cons,List.map_nil]; rfl)) (reV (congrArg Value.bool p0) (lWide (most:=(40:Int)) (l:=[r,q,t]) (GSl.mk y_q z_q P_q.out B_q Q_q) (by first | omega | exact len3_le))) fun w9 ow9=>?_
 replace B2:=(ow9.block b2 (lt_of B2)).trans B2
 replace B3:=(ow9.block b3 (lt_of B3)).trans B3
 replace B4:=(ow9.block b4 (lt_of B4)).trans B4
 replace B_q:=fun h=>(ow9.block _ (lt_of (B_q h))).trans (B_q h)
 replace bel:=bel.trans (ow9.mono bel.size)
 refine wpList_as (fr (rgV r::rgV q::rgV t::sq u1 0 4 (sq uu 0 25 (rgV r::rgV q::rgV t::.slice p_q ([r,q,t]).length c_q::.bool false::us 199)))) (by kernel_rfl) ?_
 refine wpT_val rfl (ex_move rfl) ?_
 refine wpList_as (fr (rgV r::rgV q::rgV t::sq u1 0 4 (sq uu 0 25 (rgV r::rgV q::rgV t::.slice p_q ([r,q,t]).length c_q::.bool false::.bool false::us 198)))) (by kernel_rfl) ?_
 refine wpT_valW (v:=rgV r) (by kernel_rfl) (ex_load_row 30 _ rfl (by exact E1_0) B2 Tryz.underlying30 rfl (by kernel_rfl)) ?_
 refine wpList_as (fr (rgV r::rgV q::rgV t::sq u1 0 4 (sq uu 0 25 (rgV r::rgV q::rgV t::.slice p_q ([r,q,t]).length c_q::.bool false::.bool false::rgV r::us 197)))) (by kernel_rfl) ?_
 refine wpT_callKW (V:=.bool true) (by kernel_rfl) (ex_call rfl rfl Tryz.func28 (by kernel_rfl) (by kernel_rfl) (by simp only [List.map_toArray,List.map_cons,List.map_nil]; rfl)) (reV (congrArg Value.bool p1) (hWhole (r:=r)  )) fun w10 ow10=>?_
 replace B2:=(ow10.block b2 (lt_of B2)).trans B2
 replace B3:=(ow10.block b3 (lt_of B3)).trans B3
 replace B4:=(ow10.block b4 (lt_of B4)).trans B4
 replace B_q:=fun h=>(ow10.block _ (lt_of (B_q h))).trans (B_q h)
 replace bel:=bel.trans (ow10.mono bel.size)
 refine wpList_as (fr (rgV r::rgV q::rgV t::sq u1 0 4 (sq uu 0 25 (rgV r::rgV q::rgV t::.slice p_q ([r,q,t]).length c_q::.bool false::.bool false::rgV r::.bool true::us 196)))) (by kernel_rfl) ?_
 refine wpT_valW (v:=.bool false) (by kernel_rfl) (by go_simp) ?_
 refine wpList_as (fr (rgV r::rgV q::rgV t::sq u1 0 4 (sq uu 0 25 (rgV r::rgV q::rgV t::.slice p_q ([r,q,t]).length c_q::.bool false::.bool false::rgV r::.bool true::.bool false::us 195)))) (by kernel_rfl) ?_
 refine wpT_val (v:=.bool false) rfl (by go_simp) ?_
 refine wpList_as (fr (rgV r::rgV q::rgV t::sq u1 0 4 (sq uu 0 25 (rgV r::rgV q::rgV t::.slice p_q ([r,q,t]).length c_q::.bool false::.bool false::rgV r::.bool true::.bool false::.bool false::us 194)))) (by kernel_rfl) ?_
 refine wpT_val rfl (ex_move rfl) ?_
 refine wpList_as (fr (rgV r::rgV q::rgV t::sq u1 0 4 (sq uu 0 25 (rgV r::rgV q::rgV t::.slice p_q ([r,q,t]).length c_q::.bool false::.bool false::rgV r::.bool true::.bool false::.bool false::.bool false::us 193)))) (by kernel_rfl) ?_
 refine wpT_valW (v:=rgV q) (by kernel_rfl) (ex_load_row 30 _ rfl (by exact E1_1) B3 Tryz.underlying30 rfl (by kernel_rfl)) ?_
 refine wpList_as (fr (rgV r::rgV q::rgV t::sq u1 0 4 (sq uu 0 25 (rgV r::rgV q::rgV t::.slice p_q ([r,q,t]).length c_q::.bool false::.bool false::rgV r::.bool true::.bool false::.bool false::.bool false::rgV q::us 192)))) (by kernel_rfl) ?_
 refine wpT_callKW (V:=.bool true) (by kernel_rfl) (ex_call rfl rfl Tryz.func28 (by kernel_rfl) (by kernel_rfl) (by simp only [List.map_toArray,List.map_cons,List.map_nil]; rfl)) (reV (congrArg Value.bool p2) (hWhole (r:=q)  )) fun w11 ow11=>?_
 replace B2:=(ow11.block b2 (lt_of B2)).trans B2
 replace B3:=(ow11.block b3 (lt_of B3)).trans B3
 replace B4:=(ow11.block b4 (lt_of B4)).trans B4
 replace B_q:=fun h=>(ow11.block _ (lt_of (B_q h))).trans (B_q h)
 replace bel:=bel.trans (ow11.mono bel.size)
 refine wpList_as (fr (rgV r::rgV q::rgV t::sq u1 0 4 (sq uu 0 25 (rgV r::rgV q::rgV t::.slice p_q ([r,q,t]).length c_q::.bool false::.bool false::rgV r::.bool true::.bool false::.bool false::.bool false::rgV q::.bool true::us 191)))) (by kernel_rfl) ?_
 refine wpT_valW (v:=.bool false) (by kernel_rfl) (by go_simp) ?_
 refine wpList_as (fr (rgV r::rgV q::rgV t::sq u1 0 4 (sq uu 0 25 (rgV r::rgV q::rgV t::.slice p_q ([r,q,t]).length c_q::.bool false::.bool false::rgV r::.bool true::.bool false::.bool false::.bool false::rgV q::.bool true::.bool false::us 190)))) (by kernel_rfl) ?_
 refine wpT_val (v:=.bool false) rfl (by go_simp) ?_
 refine wpList_as (fr (rgV r::rgV q::rgV t::sq u1 0 4 (sq uu 0 25 (rgV r::rgV q::rgV t::.slice p_q ([r,q,t]).length c_q::.bool false::.bool false::rgV r::.bool true::.bool false::.bool false::.bool false::rgV q::.bool true::.bool false::.bool false::us 189)))) (by kernel_rfl) ?_
 refine wpT_val rfl (ex_move rfl) ?_
 refine wpList_as (fr (rgV r::rgV q::rgV t::sq u1 0 4 (sq uu 0 25 (rgV r::rgV q::rgV t::.slice p_q ([r,q,t]).length c_q::.bool false::.bool false::rgV r::.bool true::.bool false::.bool false::.bool false::rgV q::.bool true::.bool false::.bool false::.bool false::us 188)))) (by kernel_rfl) ?_
 refine wpT_valW (v:=rgV t) (by kernel_rfl) (ex_load_row 30 _ rfl (by exact E1_2) B4 Tryz.underlying30 rfl (by kernel_rfl)) ?_
 refine wpList_as (fr (rgV r::rgV q::rgV t::sq u1 0 4 (sq uu 0 25 (rgV r::rgV q::rgV t::.slice p_q ([r,q,t]).length c_q::.bool false::.bool false::rgV r::.bool true::.bool false::.bool false::.bool false::rgV q::.bool true::.bool false::.bool false::.bool false::rgV t::us 187)))) (by kernel_rfl) ?_
 refine wpT_callKW (V:=.bool false) (by kernel_rfl) (ex_call rfl rfl Tryz.func28 (by kernel_rfl) (by kernel_rfl) (by simp only [List.map_toArray,List.map_cons,List.map_nil]; rfl)) (reV (congrArg Value.bool p3) (hWhole (r:=t)  )) fun w12 ow12=>?_
 replace B2:=(ow12.block b2 (lt_of B2)).trans B2
 replace B3:=(ow12.block b3 (lt_of B3)).trans B3
 replace B4:=(ow12.block b4 (lt_of B4)).trans B4
 replace B_q:=fun h=>(ow12.block _ (lt_of (B_q h))).trans (B_q h)
 replace bel:=bel.trans (ow12.mono bel.size)
 refine wpList_as (fr (rgV r::rgV q::rgV t::sq u1 0 4 (sq uu 0 25 (rgV r::rgV q::rgV t::.slice p_q ([r,q,t]).length c_q::.bool false::.bool false::rgV r::.bool true::.bool false::.bool false::.bool false::rgV q::.bool true::.bool false::.bool false::.bool false::rgV t::.bool false::us 186)))) (by kernel_rfl) ?_
 refine wpT_valW (v:=.bool true) (by kernel_rfl) (by go_simp) ?_
 refine wpList_as (fr (rgV r::rgV q::rgV t::sq u1 0 4 (sq uu 0 25 (rgV r::rgV q::rgV t::.slice p_q ([r,q,t]).length c_q::.bool false::.bool false::rgV r::.bool true::.bool false::.bool false::.bool false::rgV q::.bool true::.bool false::.bool false::.bool false::rgV t::.bool false::.bool true::us 185)))) (by kernel_rfl) ?_
 refine wpT_val (v:=.bool true) rfl (by go_simp) ?_
 refine wpList_as (fr (rgV r::rgV q::rgV t::sq u1 0 4 (sq uu 0 25 (rgV r::rgV q::rgV t::.slice p_q ([r,q,t]).length c_q::.bool false::.bool false::rgV r::.bool true::.bool false::.bool false::.bool false::rgV q::.bool true::.bool false::.bool false::.bool false::rgV t::.bool false::.bool true::.bool true::us 184)))) (by kernel_rfl) ?_
 refine wpList_nil ?_
 show _
 refine K6 _ _ ?_
 refine wp_cond_true rfl ?_
 refine gs 2 (Amb Z0 W) fun _ K13=>?_
 refine .cK rfl Tryz.func9 (fun H=>⟨_,ar0,lKnown⟩) ?_
 refine .mv rfl 0 ?_
 refine .dk (fun u=>rgV r::rgV q::rgV t::sq u1 0 3 (u 1::sq uu 0 25 (rgV r::rgV q::rgV t::.slice p_q ([r,q,t]).length c_q::.bool false::.bool false::rgV r::.bool true::.bool false::.bool false::.bool false::rgV q::.bool true::.bool false::.bool false::.bool false::rgV t::.bool false::.bool true::.bool true::u 0::us 183))) K13 bel fun u3 w3 D bel=>?_
 have E3_1:=D.q 1
 replace B_q:=fun h=>D.k (B_q h)
 clear D
 exact wp_ret (rt rfl E3_1 rfl bel)
theorem lRest4 {d:Cx} {u:Cx} {v:Cx} (x:Cx) (y:Cx) (z:Cx) (p0:wideU (40:Int) ([rg x,rg y,rg z]) = false) (p1:gwhole (rg x) = true) (p2:gwhole (rg y) = true) (p3:gwhole (rg z) = true) (p4:CombIs x y d u v) (p5:MulIs u x) (p6:MulIs v y) (p7:AddIs (u.mul x) (v.mul y)) (p8:(u.mul x).add (v.mul y) = d) (p9:GcdIs y x d) (p10:TurnIs x) (p11:GcdIs (x.mul (Cx.ofInt (0:Int) (1:Int))) y d) (p12:d.zero = true → x.zero = true ∧ y.zero = true) (p13:d.zero = false → (DvdIs d x ∧ DvdIs d y) ∧ (dvB d x = true ∧ dvB d y = true) ∧ (fmay (rf d.re) = true ∧ fmay (rf d.im) = true)) (p14:d.zero = false → 0 < (wsign (rw d.re.num)) ∧ 0 ≤ (wsign (rw d.im.num))) (p15:z.zero = false → DvdIs z x ∧ DvdIs z y ∧ DvdIs z d) (p16:z.zero = false → dvB z x = true → dvB z y = true → dvB z d = true) (p17:y.zero = true) :
  Calls Tryz.prog 6 #[gV x,gV y,gV z] W (RetV (.bool true) W):=by
 have bel:=b0 W
 go_enter Tryz.func6,Tryz.ntmps6
 refine gs 4 (Amb Z0 W) fun _ K1=>?_
 refine .bx rfl (fun H=>H.v 0 (gV x)) ?_
 refine .bx rfl (fun H=>H.v 1 (gV y)) ?_
 refine .bx rfl (fun H=>H.v 2 (gV z)) ?_
 refine .mc rfl ?_
 refine .dk (fun u=>gV x::gV y::gV z::sq u 0 4 (us 229)) K1 bel fun u1 w1 D bel=>?_
 obtain ⟨b2,E1_0,A2,B2⟩:=D.nw 0
 obtain ⟨b3,E1_1,A3,B3⟩:=D.nw 1
 obtain ⟨b4,E1_2,A4,B4⟩:=D.nw 2
 have E1_3:=D.q 3
 clear D
 refine wp_seq_k fun _ K5=>?_
 refine wp_seq_k fun _ K6=>?_
 refine wp_region_list ?_
 refine wpT_val (v:=gV x) rfl (ex_load_row 30 _ rfl (by exact E1_0) B2 Tryz.underlying30 rfl (by kernel_rfl)) ?_
 refine wpList_as (fr (gV x::gV y::gV z::sq u1 0 4 (sq uu 0 25 (gV x::us 203)))) (by kernel_rfl) ?_
 refine wpT_val (v:=gV y) rfl (ex_load_row 30 _ rfl (by exact E1_1) B3 Tryz.underlying30 rfl (by kernel_rfl)) ?_
 refine wpList_as (fr (gV x::gV y::gV z::sq u1 0 4 (sq uu 0 25 (gV x::gV y::us 202)))) (by kernel_rfl) ?_
 refine wpT_val (v:=gV z) rfl (ex_load_row 30 _ rfl (by exact E1_2) B4 Tryz.underlying30 rfl (by kernel_rfl)) ?_
 refine wpList_as (fr (gV x::gV y::gV z::sq u1 0 4 (sq uu 0 25 (gV x::gV y::gV z::us 201)))) (by kernel_rfl) ?_
 refine wpT_lit3 (r0:=rg x) (r1:=rg y) (r2:=rg z) rfl rfl rfl rfl rfl fun v8 w7 tw7 mw7 ow7=>?_
 obtain ⟨p_q,c_q,cur_q,T_q,fr_q,rfl,y_q,z_q,P_q,B_q,Q_q⟩:=GSl.open tw7
 replace mw7:=mw7 _ _ _ rfl
 have N_q_b2:=Nat.ne_of_lt (Nat.lt_of_lt_of_le (lt_of B2) mw7)
 have N_q_b3:=Nat.ne_of_lt (Nat.lt_of_lt_of_le (lt_of B3) mw7)
 have N_q_b4:=Nat.ne_of_lt (Nat.lt_of_lt_of_le (lt_of B4) mw7)
 replace B2:=(ow7.block b2 (lt_of B2)).trans B2
 replace B3:=(ow7.block b3 (lt_of B3)).trans B3
 replace B4:=(ow7.block b4 (lt_of B4)).trans B4
 replace bel:=bel.trans (ow7.mono bel.size)
 replace P_q:=Lib.hid P_q
 have X_q:=GSl.lt B_q
 refine wpList_as (fr (gV x::gV y::gV z::sq u1 0 4 (sq uu 0 25 (gV x::gV y::gV z::.slice p_q ([rg x,rg y,rg z]).length c_q::us 200)))) (by kernel_rfl) ?_
 refine wpT_callKW (V:=.bool false) (wanted_none rfl _) (ex_call rfl rfl Tryz.func8 (by kernel_rfl) (by kernel_rfl) (by simp only [List.map_toArray,List.map_cons,List.map_nil]; rfl)) (reV (congrArg Value.bool p0) (lWide (most:=(40:Int)) (l:=[rg x,rg y,rg z]) (GSl.mk y_q z_q P_q.out B_q Q_q) (by first | exact p9 | assumption | exact len3_le))) fun w9 ow9=>?_
 replace B2:=(ow9.block b2 (lt_of B2)).trans B2
 replace B3:=(ow9.block b3 (lt_of B3)).trans B3
 replace B4:=(ow9.block b4 (lt_of B4)).trans B4
 replace B_q:=fun h=>(ow9.block _ (lt_of (B_q h))).trans (B_q h)
 replace bel:=bel.trans (ow9.mono bel.size)
 refine wpList_as (fr (gV x::gV y::gV z::sq u1 0 4 (sq uu 0 25 (gV x::gV y::gV z::.slice p_q ([rg x,rg y,rg z]).length c_q::.bool false::us 199)))) (by kernel_rfl) ?_
 refine wpT_val rfl (ex_move rfl) ?_
 refine wpList_as (fr (gV x::gV y::gV z::sq u1 0 4 (sq uu 0 25 (gV x::gV y::gV z::.slice p_q ([rg x,rg y,rg z]).length c_q::.bool false::.bool false::us 198)))) (by kernel_rfl) ?_
 refine wpT_valW (v:=gV x) (by kernel_rfl) (ex_load_row 30 _ rfl (by exact E1_0) B2 Tryz.underlying30 rfl (by kernel_rfl)) ?_
 refine wpList_as (fr (gV x::gV y::gV z::sq u1 0 4 (sq uu 0 25 (gV x::gV y::gV z::.slice p_q ([rg x,rg y,rg z]).length c_q::.bool false::.bool false::gV x::us 197)))) (by kernel_rfl) ?_
 refine wpT_callKW (V:=.bool true) (by kernel_rfl) (ex_call rfl rfl Tryz.func28 (by kernel_rfl) (by kernel_rfl) (by simp only [List.map_toArray,List.map_cons,List.map_nil]; rfl)) (reV (congrArg Value.bool p1) (hWhole (r:=(rg x))  )) fun w10 ow10=>?_
 replace B2:=(ow10.block b2 (lt_of B2)).trans B2
 replace B3:=(ow10.block b3 (lt_of B3)).trans B3
 replace B4:=(ow10.block b4 (lt_of B4)).trans B4
 replace B_q:=fun h=>(ow10.block _ (lt_of (B_q h))).trans (B_q h)
 replace bel:=bel.trans (ow10.mono bel.size)
 refine wpList_as (fr (gV x::gV y::gV z::sq u1 0 4 (sq uu 0 25 (gV x::gV y::gV z::.slice p_q ([rg x,rg y,rg z]).length c_q::.bool false::.bool false::gV x::.bool true::us 196)))) (by kernel_rfl) ?_
 refine wpT_valW (v:=.bool false) (by kernel_rfl) (by go_simp) ?_
 refine wpList_as (fr (gV x::gV y::gV z::sq u1 0 4 (sq uu 0 25 (gV x::gV y::gV z::.slice p_q ([rg x,rg y,rg z]).length c_q::.bool false::.bool false::gV x::.bool true::.bool false::us 195)))) (by kernel_rfl) ?_
 refine wpT_val (v:=.bool false) rfl (by go_simp) ?_
 refine wpList_as (fr (gV x::gV y::gV z::sq u1 0 4 (sq uu 0 25 (gV x::gV y::gV z::.slice p_q ([rg x,rg y,rg z]).length c_q::.bool false::.bool false::gV x::.bool true::.bool false::.bool false::us 194)))) (by kernel_rfl) ?_
 refine wpT_val rfl (ex_move rfl) ?_
 refine wpList_as (fr (gV x::gV y::gV z::sq u1 0 4 (sq uu 0 25 (gV x::gV y::gV z::.slice p_q ([rg x,rg y,rg z]).length c_q::.bool false::.bool false::gV x::.bool true::.bool false::.bool false::.bool false::us 193)))) (by kernel_rfl) ?_
 refine wpT_valW (v:=gV y) (by kernel_rfl) (ex_load_row 30 _ rfl (by exact E1_1) B3 Tryz.underlying30 rfl (by kernel_rfl)) ?_
 refine wpList_as (fr (gV x::gV y::gV z::sq u1 0 4 (sq uu 0 25 (gV x::gV y::gV z::.slice p_q ([rg x,rg y,rg z]).length c_q::.bool false::.bool false::gV x::.bool true::.bool false::.bool false::.bool false::gV y::us 192)))) (by kernel_rfl) ?_
 refine wpT_callKW (V:=.bool true) (by kernel_rfl) (ex_call rfl rfl Tryz.func28 (by kernel_rfl) (by kernel_rfl) (by simp only [List.map_toArray,List.map_cons,List.map_nil]; rfl)) (reV (congrArg Value.bool p2) (hWhole (r:=(rg y))  )) fun w11 ow11=>?_
 replace B2:=(ow11.block b2 (lt_of B2)).trans B2
 replace B3:=(ow11.block b3 (lt_of B3)).trans B3
 replace B4:=(ow11.block b4 (lt_of B4)).trans B4
 replace B_q:=fun h=>(ow11.block _ (lt_of (B_q h))).trans (B_q h)
 replace bel:=bel.trans (ow11.mono bel.size)
 refine wpList_as (fr (gV x::gV y::gV z::sq u1 0 4 (sq uu 0 25 (gV x::gV y::gV z::.slice p_q ([rg x,rg y,rg z]).length c_q::.bool false::.bool false::gV x::.bool true::.bool false::.bool false::.bool false::gV y::.bool true::us 191)))) (by kernel_rfl) ?_
 refine wpT_valW (v:=.bool false) (by kernel_rfl) (by go_simp) ?_
 refine wpList_as (fr (gV x::gV y::gV z::sq u1 0 4 (sq uu 0 25 (gV x::gV y::gV z::.slice p_q ([rg x,rg y,rg z]).length c_q::.bool false::.bool false::gV x::.bool true::.bool false::.bool false::.bool false::gV y::.bool true::.bool false::us 190)))) (by kernel_rfl) ?_
 refine wpT_val (v:=.bool false) rfl (by go_simp) ?_
 refine wpList_as (fr (gV x::gV y::gV z::sq u1 0 4 (sq uu 0 25 (gV x::gV y::gV z::.slice p_q ([rg x,rg y,rg z]).length c_q::.bool false::.bool false::gV x::.bool true::.bool false::.bool false::.bool false::gV y::.bool true::.bool false::.bool false::us 189)))) (by kernel_rfl) ?_
 refine wpT_val rfl (ex_move rfl) ?_
 refine wpList_as (fr (gV x::gV y::gV z::sq u1 0 4 (sq uu 0 25 (gV x::gV y::gV z::.slice p_q ([rg x,rg y,rg z]).length c_q::.bool false::.bool false::gV x::.bool true::.bool false::.bool false::.bool false::gV y::.bool true::.bool false::.bool false::.bool false::us 188)))) (by kernel_rfl) ?_
 refine wpT_valW (v:=gV z) (by kernel_rfl) (ex_load_row 30 _ rfl (by exact E1_2) B4 Tryz.underlying30 rfl (by kernel_rfl)) ?_
 refine wpList_as (fr (gV x::gV y::gV z::sq u1 0 4 (sq uu 0 25 (gV x::gV y::gV z::.slice p_q ([rg x,rg y,rg z]).length c_q::.bool false::.bool false::gV x::.bool true::.bool false::.bool false::.bool false::gV y::.bool true::.bool false::.bool false::.bool false::gV z::us 187)))) (by kernel_rfl) ?_
 refine wpT_callKW (V:=.bool true) (by kernel_rfl) (ex_call rfl rfl Tryz.func28 (by kernel_rfl) (by kernel_rfl) (by simp only [List.map_toArray,List.map_cons,List.map_nil]; rfl)) (reV (congrArg Value.bool p3) (hWhole (r:=(rg z))  )) fun w12 ow12=>?_
 replace B2:=(ow12.block b2 (lt_of B2)).trans B2
 replace B3:=(ow12.block b3 (lt_of B3)).trans B3
 replace B4:=(ow12.block b4 (lt_of B4)).trans B4
 replace B_q:=fun h=>(ow12.block _ (lt_of (B_q h))).trans (B_q h)
 replace bel:=bel.trans (ow12.mono bel.size)
 refine wpList_as (fr (gV x::gV y::gV z::sq u1 0 4 (sq uu 0 25 (gV x::gV y::gV z::.slice p_q ([rg x,rg y,rg z]).length c_q::.bool false::.bool false::gV x::.bool true::.bool false::.bool false::.bool false::gV y::.bool true::.bool false::.bool false::.bool false::gV z::.bool true::us 186)))) (by kernel_rfl) ?_
 refine wpT_valW (v:=.bool false) (by kernel_rfl) (by go_simp) ?_
 refine wpList_as (fr (gV x::gV y::gV z::sq u1 0 4 (sq uu 0 25 (gV x::gV y::gV z::.slice p_q ([rg x,rg y,rg z]).length c_q::.bool false::.bool false::gV x::.bool true::.bool false::.bool false::.bool false::gV y::.bool true::.bool false::.bool false::.bool false::gV z::.bool true::.bool false::us 185)))) (by kernel_rfl) ?_
 refine wpT_val (v:=.bool false) rfl (by go_simp) ?_
 refine wpList_as (fr (gV x::gV y::gV z::sq u1 0 4 (sq uu 0 25 (gV x::gV y::gV z::.slice p_q ([rg x,rg y,rg z]).length c_q::.bool false::.bool false::gV x::.bool true::.bool false::.bool false::.bool false::gV y::.bool true::.bool false::.bool false::.bool false::gV z::.bool true::.bool false::.bool false::us 184)))) (by kernel_rfl) ?_
 refine wpList_nil ?_
 show _
 refine K6 _ _ ?_
 refine wp_cond_false rfl ?_
 refine wp_skip ?_
 refine K5 _ _ ?_
 refine gs 12 (Amb Z0 W) fun _ K13=>?_
 refine .lr rfl 3 E1_0 B2 ?_
 refine .lr rfl 4 E1_1 B3 ?_
 refine .cK rfl Tryz.func23 (fun H=>⟨_,ar2 (H.g 54 0) (H.g 55 1),hDivB _ _ (by first | exact p9 | assumption | exact len3_le) (by first | exact p9 | assumption | exact len3_le) (by first | exact p9 | assumption | exact len3_le)⟩) ?_
 refine .mv rfl 2 ?_
 refine .e rfl (V:=.agg zG) (fun H=>x_ex (H.g 53 3)) ?_
 refine .e rfl (V:=.agg zG) (fun H=>x_ex (H.g 53 3)) ?_
 refine .e rfl (V:=.int .i64 5) (fun H=>x_ex (H.g 53 3)) ?_
 refine .al rfl zG ?_
 refine .al rfl zG ?_
 refine .so rfl 7 (fun H=>⟨H.r 7 7,H.g 57 4⟩) ?_
 refine .so rfl 8 (fun H=>⟨H.r 8 8,H.g 58 5⟩) ?_
 refine .mv rfl 6 ?_
 refine .dk (fun u=>gV x::gV y::gV z::sq u1 0 4 (u 7::u 8::u 11::sq uu 0 22 (gV x::gV y::gV z::.slice p_q ([rg x,rg y,rg z]).length c_q::.bool false::.bool false::gV x::.bool true::.bool false::.bool false::.bool false::gV y::.bool true::.bool false::.bool false::.bool false::gV z::.bool true::.bool false::.bool false::U::u 3::sq u 0 3 (sq u 4 3 (us 176))))) K13 bel fun u3 w3 D bel=>?_
 obtain ⟨b14,E3_7,A14,B14⟩:=D.st 9
 obtain ⟨b15,E3_8,A15,B15⟩:=D.st 10
 have E3_11:=D.q 11
 replace B2:=D.k B2
 replace B3:=D.k B3
 replace B4:=D.k B4
 replace B_q:=fun h=>D.k (B_q h)
 clear D
 refine wp_seq_k fun _ K16=>?_
 refine gs 3 (Amb Z0 W) fun _ K17=>?_
 refine .lr rfl 4 E1_1 B3 ?_
 refine .cK rfl (V:=.bool true) Tryz.func37 (fun H=>⟨_,ar1 (H.g 60 0),reV (congrArg Value.bool p17) (iZero _)⟩) ?_
 refine .e rfl (V:=.bool false) (fun H=>x_not (H.g 61 1)) ?_
 refine .dk (fun u=>gV x::gV y::gV z::sq u1 0 4 (u3 7::u3 8::u3 11::sq uu 0 22 (gV x::gV y::gV z::.slice p_q ([rg x,rg y,rg z]).length c_q::.bool false::.bool false::gV x::.bool true::.bool false::.bool false::.bool false::gV y::.bool true::.bool false::.bool false::.bool false::gV z::.bool true::.bool false::.bool false::U::u3 3::sq u3 0 3 (sq u3 4 3 (sq u 0 3 (us 173)))))) K17 bel fun u4 w4 D bel=>?_
 have E4_2:=D.q 2
 replace B2:=D.k B2
 replace B3:=D.k B3
 replace B4:=D.k B4
 replace B14:=D.k B14
 replace B15:=D.k B15
 replace B_q:=fun h=>D.k (B_q h)
 clear D
 refine wp_cond_false (by exact E4_2) ?_
 refine wp_skip ?_
 refine K16 _ _ ?_
 refine gs 15 (Amb Z0 W) fun _ K18=>?_
 refine .lr rfl 3 E1_0 B2 ?_
 refine .lr rfl 4 E1_1 B3 ?_
 refine .cK rfl Tryz.func25 (fun H=>⟨_,ar2 (H.g 110 0) (H.g 111 1),iComb _ _ (d:=d) (u:=u) (v:=v) (by first | exact p9 | assumption | exact len3_le)⟩) ?_
 refine .mv rfl 2 ?_
 refine .e rfl (V:=gV d) (fun H=>x_ex (H.g 109 3)) ?_
 refine .e rfl (V:=gV u) (fun H=>x_ex (H.g 109 3)) ?_
 refine .e rfl (V:=gV v) (fun H=>x_ex (H.g 109 3)) ?_
 refine .e rfl (V:=.int .i64 0) (fun H=>x_ex (H.g 109 3)) ?_
 refine .al rfl zG ?_
 refine .al rfl zG ?_
 refine .al rfl zG ?_
 refine .so rfl 8 (fun H=>⟨H.r 16 8,H.g 113 4⟩) ?_
 refine .so rfl 9 (fun H=>⟨H.r 17 9,H.g 114 5⟩) ?_
 refine .so rfl 10 (fun H=>⟨H.r 18 10,H.g 115 6⟩) ?_
 refine .mv rfl 7 ?_
 refine .dk (fun u=>gV x::gV y::gV z::sq u1 0 4 (u3 7::u3 8::u3 11::U::U::U::U::U::U::sq u 8 3 (u 14::sq uu 0 12 (gV x::gV y::gV z::.slice p_q ([rg x,rg y,rg z]).length c_q::.bool false::.bool false::gV x::.bool true::.bool false::.bool false::.bool false::gV y::.bool true::.bool false::.bool false::.bool false::gV z::.bool true::.bool false::.bool false::U::u3 3::sq u3 0 3 (sq u3 4 3 (sq u4 0 3 (sq uu 0 46 (u 3::sq u 0 3 (sq u 4 4 (us 119)))))))))) K18 bel fun u5 w5 D bel=>?_
 obtain ⟨b19,E5_8,A19,B19⟩:=D.st 11
 obtain ⟨b20,E5_9,A20,B20⟩:=D.st 12
 obtain ⟨b21,E5_10,A21,B21⟩:=D.st 13
 have E5_14:=D.q 14
 replace B2:=D.k B2
 replace B3:=D.k B3
 replace B4:=D.k B4
 replace B_q:=fun h=>D.k (B_q h)
 clear D
 refine gs 9 (Amb Z0 W) fun _ K22=>?_
 refine .lr rfl 17 E5_9 B20 ?_
 refine .lr rfl 3 E1_0 B2 ?_
 refine .cK rfl Tryz.func38 (fun H=>⟨_,ar2 (H.g 118 0) (H.g 119 1),iMul _ _ (by first | exact p9 | assumption | exact len3_le)⟩) ?_
 refine .mv rfl 2 ?_
 refine .e rfl (V:=gV (u.mul x)) (fun H=>x_ex (H.g 117 3)) ?_
 refine .e rfl (V:=.int .i64 0) (fun H=>x_ex (H.g 117 3)) ?_
 refine .al rfl zG ?_
 refine .so rfl 6 (fun H=>⟨H.r 20 6,H.g 121 4⟩) ?_
 refine .mv rfl 5 ?_
 refine .dk (fun u=>gV x::gV y::gV z::sq u1 0 4 (u3 7::u3 8::u3 11::U::U::U::U::U::U::sq u5 8 3 (u5 14::u 6::u 8::sq uu 0 10 (gV x::gV y::gV z::.slice p_q ([rg x,rg y,rg z]).length c_q::.bool false::.bool false::gV x::.bool true::.bool false::.bool false::.bool false::gV y::.bool true::.bool false::.bool false::.bool false::gV z::.bool true::.bool false::.bool false::U::u3 3::sq u3 0 3 (sq u3 4 3 (sq u4 0 3 (sq uu 0 46 (u5 3::sq u5 0 3 (sq u5 4 4 (u 3::sq u 0 3 (u 4::u 5::us 113))))))))))) K22 bel fun u6 w6 D bel=>?_
 obtain ⟨b23,E6_6,A23,B23⟩:=D.st 7
 replace B2:=D.k B2
 replace B3:=D.k B3
 replace B4:=D.k B4
 replace B19:=D.k B19
 replace B21:=D.k B21
 replace B_q:=fun h=>D.k (B_q h)
 clear D
 refine gs 9 (Amb Z0 W) fun _ K24=>?_
 refine .lr rfl 18 E5_10 B21 ?_
 refine .lr rfl 4 E1_1 B3 ?_
 refine .cK rfl Tryz.func38 (fun H=>⟨_,ar2 (H.g 124 0) (H.g 125 1),iMul _ _ (by first | exact p9 | assumption | exact len3_le)⟩) ?_
 refine .mv rfl 2 ?_
 refine .e rfl (V:=gV (v.mul y)) (fun H=>x_ex (H.g 123 3)) ?_
 refine .e rfl (V:=.int .i64 0) (fun H=>x_ex (H.g 123 3)) ?_
 refine .al rfl zG ?_
 refine .so rfl 6 (fun H=>⟨H.r 22 6,H.g 127 4⟩) ?_
 refine .mv rfl 5 ?_
 refine .dk (fun u=>gV x::gV y::gV z::sq u1 0 4 (u3 7::u3 8::u3 11::U::U::U::U::U::U::sq u5 8 3 (u5 14::u6 6::u6 8::u 6::u 8::sq uu 0 8 (gV x::gV y::gV z::.slice p_q ([rg x,rg y,rg z]).length c_q::.bool false::.bool false::gV x::.bool true::.bool false::.bool false::.bool false::gV y::.bool true::.bool false::.bool false::.bool false::gV z::.bool true::.bool false::.bool false::U::u3 3::sq u3 0 3 (sq u3 4 3 (sq u4 0 3 (sq uu 0 46 (u5 3::sq u5 0 3 (sq u5 4 4 (u6 3::sq u6 0 3 (u6 4::u6 5::u 3::sq u 0 3 (u 4::u 5::us 107)))))))))))) K24 bel fun u7 w7 D bel=>?_
 obtain ⟨b25,E7_6,A25,B25⟩:=D.st 7
 replace B2:=D.k B2
 replace B3:=D.k B3
 replace B4:=D.k B4
 replace B19:=D.k B19
 replace B23:=D.k B23
 replace B_q:=fun h=>D.k (B_q h)
 clear D
 refine gs 9 (Amb Z0 W) fun _ K26=>?_
 refine .lr rfl 20 E6_6 B23 ?_
 refine .lr rfl 22 E7_6 B25 ?_
 refine .cK rfl Tryz.func39 (fun H=>⟨_,ar2 (H.g 130 0) (H.g 131 1),iAdd _ _ (by first | exact p9 | assumption | exact len3_le)⟩) ?_
 refine .mv rfl 2 ?_
 refine .e rfl (V:=gV ((u.mul x).add (v.mul y))) (fun H=>x_ex (H.g 129 3)) ?_
 refine .e rfl (V:=.int .i64 0) (fun H=>x_ex (H.g 129 3)) ?_
 refine .al rfl zG ?_
 refine .so rfl 6 (fun H=>⟨H.r 24 6,H.g 133 4⟩) ?_
 refine .mv rfl 5 ?_
 refine .dk (fun u=>gV x::gV y::gV z::sq u1 0 4 (u3 7::u3 8::u3 11::U::U::U::U::U::U::sq u5 8 3 (u5 14::u6 6::u6 8::u7 6::u7 8::u 6::u 8::U::U::U::U::U::U::gV x::gV y::gV z::.slice p_q ([rg x,rg y,rg z]).length c_q::.bool false::.bool false::gV x::.bool true::.bool false::.bool false::.bool false::gV y::.bool true::.bool false::.bool false::.bool false::gV z::.bool true::.bool false::.bool false::U::u3 3::sq u3 0 3 (sq u3 4 3 (sq u4 0 3 (sq uu 0 46 (u5 3::sq u5 0 3 (sq u5 4 4 (u6 3::sq u6 0 3 (u6 4::u6 5::u7 3::sq u7 0 3 (u7 4::u7 5::u 3::sq u 0 3 (u 4::u 5::us 101)))))))))))) K26 bel fun u8 w8 D bel=>?_
 obtain ⟨b27,E8_6,A27,B27⟩:=D.st 7
 have E8_8:=D.q 8
 replace B2:=D.k B2
 replace B3:=D.k B3
 replace B4:=D.k B4
 replace B19:=D.k B19
 replace B_q:=fun h=>D.k (B_q h)
 clear D
 refine gs 9 (Amb Z0 W) fun _ K28=>?_
 refine .lr rfl 4 E1_1 B3 ?_
 refine .lr rfl 3 E1_0 B2 ?_
 refine .cK rfl Tryz.func24 (fun H=>⟨_,ar2 (H.g 136 0) (H.g 137 1),iGcd _ _ (d:=d) (by first | exact p9 | assumption | exact len3_le)⟩) ?_
 refine .mv rfl 2 ?_
 refine .e rfl (V:=gV d) (fun H=>x_ex (H.g 135 3)) ?_
 refine .e rfl (V:=.int .i64 0) (fun H=>x_ex (H.g 135 3)) ?_
 refine .al rfl zG ?_
 refine .so rfl 6 (fun H=>⟨H.r 26 6,H.g 139 4⟩) ?_
 refine .mv rfl 5 ?_
 refine .dk (fun u=>gV x::gV y::gV z::sq u1 0 4 (u3 7::u3 8::u3 11::U::U::U::U::U::U::sq u5 8 3 (u5 14::u6 6::u6 8::u7 6::u7 8::u8 6::u8 8::u 6::u 8::U::U::U::U::gV x::gV y::gV z::.slice p_q ([rg x,rg y,rg z]).length c_q::.bool false::.bool false::gV x::.bool true::.bool false::.bool false::.bool false::gV y::.bool true::.bool false::.bool false::.bool false::gV z::.bool true::.bool false::.bool false::U::u3 3::sq u3 0 3 (sq u3 4 3 (sq u4 0 3 (sq uu 0 46 (u5 3::sq u5 0 3 (sq u5 4 4 (u6 3::sq u6 0 3 (u6 4::u6 5::u7 3::sq u7 0 3 (u7 4::u7 5::u8 3::sq u8 0 3 (u8 4::u8 5::u 3::sq u 0 3 (u 4::u 5::us 95))))))))))))) K28 bel fun u9 w9 D bel=>?_
 obtain ⟨b29,E9_6,A29,B29⟩:=D.st 7
 have E9_8:=D.q 8
 replace B2:=D.k B2
 replace B3:=D.k B3
 replace B4:=D.k B4
 replace B19:=D.k B19
 replace B27:=D.k B27
 replace B_q:=fun h=>D.k (B_q h)
 clear D
 refine gs 8 (Amb Z0 W) fun _ K30=>?_
 refine .lr rfl 3 E1_0 B2 ?_
 refine .cK rfl Tryz.func43 (fun H=>⟨_,ar1 (H.g 142 0),iTurn _ (by first | exact p9 | assumption | exact len3_le)⟩) ?_
 refine .mv rfl 1 ?_
 refine .e rfl (V:=gV (x.mul (Cx.ofInt (0:Int) (1:Int)))) (fun H=>x_ex (H.g 141 2)) ?_
 refine .e rfl (V:=.int .i64 0) (fun H=>x_ex (H.g 141 2)) ?_
 refine .al rfl zG ?_
 refine .so rfl 5 (fun H=>⟨H.r 28 5,H.g 144 3⟩) ?_
 refine .mv rfl 4 ?_
 refine .dk (fun u=>gV x::gV y::gV z::sq u1 0 4 (u3 7::u3 8::u3 11::U::U::U::U::U::U::sq u5 8 3 (u5 14::u6 6::u6 8::u7 6::u7 8::u8 6::u8 8::u9 6::u9 8::u 5::u 7::U::U::gV x::gV y::gV z::.slice p_q ([rg x,rg y,rg z]).length c_q::.bool false::.bool false::gV x::.bool true::.bool false::.bool false::.bool false::gV y::.bool true::.bool false::.bool false::.bool false::gV z::.bool true::.bool false::.bool false::U::u3 3::sq u3 0 3 (sq u3 4 3 (sq u4 0 3 (sq uu 0 46 (u5 3::sq u5 0 3 (sq u5 4 4 (u6 3::sq u6 0 3 (u6 4::u6 5::u7 3::sq u7 0 3 (u7 4::u7 5::u8 3::sq u8 0 3 (u8 4::u8 5::u9 3::sq u9 0 3 (u9 4::u9 5::u 2::u 0::u 1::u 3::u 4::us 90))))))))))))) K30 bel fun u10 w10 D bel=>?_
 obtain ⟨b31,E10_5,A31,B31⟩:=D.st 6
 replace B2:=D.k B2
 replace B3:=D.k B3
 replace B4:=D.k B4
 replace B19:=D.k B19
 replace B27:=D.k B27
 replace B29:=D.k B29
 replace B_q:=fun h=>D.k (B_q h)
 clear D
 refine gs 9 (Amb Z0 W) fun _ K32=>?_
 refine .lr rfl 28 E10_5 B31 ?_
 refine .lr rfl 4 E1_1 B3 ?_
 refine .cK rfl Tryz.func24 (fun H=>⟨_,ar2 (H.g 147 0) (H.g 148 1),iGcd _ _ (d:=d) (by first | exact p9 | assumption | exact len3_le)⟩) ?_
 refine .mv rfl 2 ?_
 refine .e rfl (V:=gV d) (fun H=>x_ex (H.g 146 3)) ?_
 refine .e rfl (V:=.int .i64 0) (fun H=>x_ex (H.g 146 3)) ?_
 refine .al rfl zG ?_
 refine .so rfl 6 (fun H=>⟨H.r 30 6,H.g 150 4⟩) ?_
 refine .mv rfl 5 ?_
 refine .dk (fun u=>gV x::gV y::gV z::sq u1 0 4 (u3 7::u3 8::u3 11::U::U::U::U::U::U::sq u5 8 3 (u5 14::u6 6::u6 8::u7 6::u7 8::u8 6::u8 8::u9 6::u9 8::u10 5::u10 7::u 6::u 8::gV x::gV y::gV z::.slice p_q ([rg x,rg y,rg z]).length c_q::.bool false::.bool false::gV x::.bool true::.bool false::.bool false::.bool false::gV y::.bool true::.bool false::.bool false::.bool false::gV z::.bool true::.bool false::.bool false::U::u3 3::sq u3 0 3 (sq u3 4 3 (sq u4 0 3 (sq uu 0 46 (u5 3::sq u5 0 3 (sq u5 4 4 (u6 3::sq u6 0 3 (u6 4::u6 5::u7 3::sq u7 0 3 (u7 4::u7 5::u8 3::sq u8 0 3 (u8 4::u8 5::u9 3::sq u9 0 3 (u9 4::u9 5::u10 2::u10 0::u10 1::u10 3::u10 4::u 3::sq u 0 3 (u 4::u 5::us 84)))))))))))))) K32 bel fun u11 w11 D bel=>?_
 obtain ⟨b33,E11_6,A33,B33⟩:=D.st 7
 have E11_8:=D.q 8
 replace B2:=D.k B2
 replace B3:=D.k B3
 replace B4:=D.k B4
 replace B19:=D.k B19
 replace B27:=D.k B27
 replace B29:=D.k B29
 replace B_q:=fun h=>D.k (B_q h)
 clear D
 refine wp_seq_k fun _ K34=>?_
 refine gs 29 (Amb Z0 W) fun _ K35=>?_
 refine .mz rfl 19 E5_14 ?_
 refine .e rfl (V:=.bool false) (fun H=>x_cm (H.g 152 0) (H.c _) (bne_self_eq_false (show Int from 0))) ?_
 refine .mv rfl 1 ?_
 refine .mz rfl 25 E8_8 ?_ (hg:=gq 2 rfl)
 refine .e rfl (V:=.bool false) (fun H=>x_cm (H.g 155 3) (H.c _) (bne_self_eq_false (show Int from 0))) ?_ (hg:=gq 2 rfl)
 refine .e rfl (fun H=>x_pkF (H.g 154 2) (H.g 156 4)) ?_
 refine .mv rfl 5 ?_
 refine .lr rfl 24 E8_6 B27 ?_ (hg:=gq 6 rfl)
 refine .lr rfl 16 E5_8 B19 ?_ (hg:=gq 6 rfl)
 refine .e rfl (V:=.bool false) (fun H=>ex_neq_gauss (r:=rg ((u.mul x).add (v.mul y))) (q:=rg d) _ _ rfl (H.g 159 7) (H.g 160 8) ((rg_dec ((u.mul x).add (v.mul y)) d).trans (decide_eq_true p8))) ?_ (hg:=gq 6 rfl)
 refine .e rfl (fun H=>x_pkF (H.g 158 6) (H.g 161 9)) ?_
 refine .mv rfl 10 ?_
 refine .mz rfl 27 E9_8 ?_ (hg:=gq 11 rfl)
 refine .e rfl (V:=.bool false) (fun H=>x_cm (H.g 164 12) (H.c _) (bne_self_eq_false (show Int from 0))) ?_ (hg:=gq 11 rfl)
 refine .e rfl (fun H=>x_pkF (H.g 163 11) (H.g 165 13)) ?_
 refine .mv rfl 14 ?_
 refine .lr rfl 26 E9_6 B29 ?_ (hg:=gq 15 rfl)
 refine .lr rfl 16 E5_8 B19 ?_ (hg:=gq 15 rfl)
 refine .e rfl (V:=.bool false) (fun H=>ex_neq_gauss (r:=rg d) (q:=rg d) _ _ rfl (H.g 168 16) (H.g 169 17) ((rg_dec d d).trans (decide_eq_true rfl))) ?_ (hg:=gq 15 rfl)
 refine .e rfl (fun H=>x_pkF (H.g 167 15) (H.g 170 18)) ?_
 refine .mv rfl 19 ?_
 refine .mz rfl 31 E11_8 ?_ (hg:=gq 20 rfl)
 refine .e rfl (V:=.bool false) (fun H=>x_cm (H.g 173 21) (H.c _) (bne_self_eq_false (show Int from 0))) ?_ (hg:=gq 20 rfl)
 refine .e rfl (fun H=>x_pkF (H.g 172 20) (H.g 174 22)) ?_
 refine .mv rfl 23 ?_
 refine .lr rfl 30 E11_6 B33 ?_ (hg:=gq 24 rfl)
 refine .lr rfl 16 E5_8 B19 ?_ (hg:=gq 24 rfl)
 refine .e rfl (V:=.bool false) (fun H=>ex_neq_gauss (r:=rg d) (q:=rg d) _ _ rfl (H.g 177 25) (H.g 178 26) ((rg_dec d d).trans (decide_eq_true rfl))) ?_ (hg:=gq 24 rfl)
 refine .e rfl (fun H=>x_pkF (H.g 176 24) (H.g 179 27)) ?_
 refine .dk (fun u=>gV x::gV y::gV z::sq u1 0 4 (u3 7::u3 8::u3 11::U::U::U::U::U::U::sq u5 8 3 (u5 14::u6 6::u6 8::u7 6::u7 8::u8 6::u8 8::u9 6::u9 8::u10 5::u10 7::u11 6::u11 8::gV x::gV y::gV z::.slice p_q ([rg x,rg y,rg z]).length c_q::.bool false::.bool false::gV x::.bool true::.bool false::.bool false::.bool false::gV y::.bool true::.bool false::.bool false::.bool false::gV z::.bool true::.bool false::.bool false::U::u3 3::sq u3 0 3 (sq u3 4 3 (sq u4 0 3 (sq uu 0 46 (u5 3::sq u5 0 3 (sq u5 4 4 (u6 3::sq u6 0 3 (u6 4::u6 5::u7 3::sq u7 0 3 (u7 4::u7 5::u8 3::sq u8 0 3 (u8 4::u8 5::u9 3::sq u9 0 3 (u9 4::u9 5::u10 2::u10 0::u10 1::u10 3::u10 4::u11 3::sq u11 0 3 (u11 4::u11 5::sq u 0 29 (us 55))))))))))))))) K35 bel fun u12 w12 D bel=>?_
 have E12_28:=D.q 28
 replace B2:=D.k B2
 replace B3:=D.k B3
 replace B4:=D.k B4
 replace B19:=D.k B19
 replace B_q:=fun h=>D.k (B_q h)
 clear D
 refine wp_cond_false (by exact E12_28) ?_
 refine wp_skip ?_
 refine K34 _ _ ?_
 refine wp_seq_k fun _ K36=>?_
 refine gs 2 (Amb Z0 W) fun _ K37=>?_
 refine .lr rfl 16 E5_8 B19 ?_
 refine .cK rfl Tryz.func37 (fun H=>⟨_,ar1 (H.g 181 0),iZero _⟩) ?_
 refine .dk (fun u=>gV x::gV y::gV z::sq u1 0 4 (u3 7::u3 8::u3 11::U::U::U::U::U::U::sq u5 8 3 (u5 14::u6 6::u6 8::u7 6::u7 8::u8 6::u8 8::u9 6::u9 8::u10 5::u10 7::u11 6::u11 8::gV x::gV y::gV z::.slice p_q ([rg x,rg y,rg z]).length c_q::.bool false::.bool false::gV x::.bool true::.bool false::.bool false::.bool false::gV y::.bool true::.bool false::.bool false::.bool false::gV z::.bool true::.bool false::.bool false::U::u3 3::sq u3 0 3 (sq u3 4 3 (sq u4 0 3 (sq uu 0 46 (u5 3::sq u5 0 3 (sq u5 4 4 (u6 3::sq u6 0 3 (u6 4::u6 5::u7 3::sq u7 0 3 (u7 4::u7 5::u8 3::sq u8 0 3 (u8 4::u8 5::u9 3::sq u9 0 3 (u9 4::u9 5::u10 2::u10 0::u10 1::u10 3::u10 4::u11 3::sq u11 0 3 (u11 4::u11 5::sq u12 0 29 (u 0::u 1::us 53))))))))))))))) K37 bel fun u13 w13 D bel=>?_
 have E13_1:=D.q 1
 replace B2:=D.k B2
 replace B3:=D.k B3
 replace B4:=D.k B4
 replace B19:=D.k B19
 replace B_q:=fun h=>D.k (B_q h)
 clear D
 rcases Bool.eq_false_or_eq_true d.zero with c38 | c38
 ·
  refine wp_cond_true ((E13_1).trans (congrArg Value.bool c38)) ?_
  obtain ⟨e1,e2⟩:=p12 c38
  refine gs 10 (Amb Z0 W) fun _ K39=>?_
  refine .lr rfl 3 E1_0 B2 ?_
  refine .cK rfl (V:=.bool true) Tryz.func37 (fun H=>⟨_,ar1 (H.g 183 0),reV (congrArg Value.bool e1) (iZero _)⟩) ?_
  refine .mv rfl 1 ?_
  refine .lr rfl 4 E1_1 B3 ?_ (hg:=gq 2 rfl)
  refine .cK rfl (V:=.bool true) Tryz.func37 (fun H=>⟨_,ar1 (H.g 186 3),reV (congrArg Value.bool p17) (iZero _)⟩) ?_ (hg:=gq 2 rfl)
  refine .e rfl (fun H=>x_pkT (H.g 185 2) (H.g 187 4)) ?_
  refine .mv rfl 5 ?_
  refine .cK rfl Tryz.func9 (fun H=>⟨_,ar0,lKnown⟩) ?_ (hg:=gq 6 rfl)
  refine .e rfl (fun H=>x_pkT (H.g 189 6) (H.g 190 7)) ?_
  refine .mv rfl 8 ?_
  refine .dk (fun u=>gV x::gV y::gV z::sq u1 0 3 (u 9::u3 7::u3 8::u3 11::U::U::U::U::U::U::sq u5 8 3 (u5 14::u6 6::u6 8::u7 6::u7 8::u8 6::u8 8::u9 6::u9 8::u10 5::u10 7::u11 6::u11 8::gV x::gV y::gV z::.slice p_q ([rg x,rg y,rg z]).length c_q::.bool false::.bool false::gV x::.bool true::.bool false::.bool false::.bool false::gV y::.bool true::.bool false::.bool false::.bool false::gV z::.bool true::.bool false::.bool false::U::u3 3::sq u3 0 3 (sq u3 4 3 (sq u4 0 3 (sq uu 0 46 (u5 3::sq u5 0 3 (sq u5 4 4 (u6 3::sq u6 0 3 (u6 4::u6 5::u7 3::sq u7 0 3 (u7 4::u7 5::u8 3::sq u8 0 3 (u8 4::u8 5::u9 3::sq u9 0 3 (u9 4::u9 5::u10 2::u10 0::u10 1::u10 3::u10 4::u11 3::sq u11 0 3 (u11 4::u11 5::sq u12 0 29 (u13 0::u13 1::sq u 0 9 (us 44)))))))))))))))) K39 bel fun u14 w14 D bel=>?_
  have E14_9:=D.q 9
  replace B_q:=fun h=>D.k (B_q h)
  clear D
  exact wp_ret (rt rfl E14_9 rfl bel)
 ·
  refine wp_cond_false ((E13_1).trans (congrArg Value.bool c38)) ?_
  obtain ⟨⟨e1,e2⟩,⟨e3,e4⟩,e5,e6⟩:=p13 c38
  obtain ⟨e7,e8⟩:=p14 c38
  refine wp_skip ?_
  refine K36 _ _ ?_
  refine wp_seq_k fun _ K40=>?_
  rcases Bool.eq_false_or_eq_true (z.zero) with c42 | c42
  ·
   refine gs 31 (Amb Z0 W) fun _ K41=>?_
   refine .lr rfl 16 E5_8 B19 ?_
   refine .lr rfl 3 E1_0 B2 ?_
   refine .cK rfl (V:=.bool true) Tryz.func44 (fun H=>⟨_,ar2 (H.g 192 0) (H.g 193 1),reV (congrArg Value.bool e3) (iDvd _ _ (by first | exact p9 | assumption | exact len3_le))⟩) ?_
   refine .e rfl (V:=.bool false) (fun H=>x_not (H.g 194 2)) ?_
   refine .mv rfl 3 ?_
   refine .lr rfl 16 E5_8 B19 ?_ (hg:=gq 4 rfl)
   refine .lr rfl 4 E1_1 B3 ?_ (hg:=gq 4 rfl)
   refine .cK rfl (V:=.bool true) Tryz.func44 (fun H=>⟨_,ar2 (H.g 197 5) (H.g 198 6),reV (congrArg Value.bool e4) (iDvd _ _ (by first | exact p9 | assumption | exact len3_le))⟩) ?_ (hg:=gq 4 rfl)
   refine .e rfl (V:=.bool false) (fun H=>x_not (H.g 199 7)) ?_ (hg:=gq 4 rfl)
   refine .e rfl (fun H=>x_pkF (H.g 196 4) (H.g 200 8)) ?_
   refine .mv rfl 9 ?_
   refine .lr rfl 5 E1_2 B4 ?_ (hg:=gq 10 rfl)
   refine .cK rfl (V:=.bool true) Tryz.func37 (fun H=>⟨_,ar1 (H.g 203 11),reV (congrArg Value.bool c42) (iZero _)⟩) ?_ (hg:=gq 10 rfl)
   refine .e rfl (V:=.bool false) (fun H=>x_not (H.g 204 12)) ?_ (hg:=gq 10 rfl)
   refine .mv rfl 13 ?_ (hg:=gq 10 rfl)
   refine .sk rfl 14 ?_
   refine .sk rfl 14 ?_
   refine .sk rfl 14 ?_
   refine .e rfl (fun H=>x_pkF (H.g 206 14) (H.c _)) ?_ (hg:=gq 10 rfl)
   refine .mv rfl 18 ?_ (hg:=gq 10 rfl)
   refine .sk rfl 19 ?_
   refine .sk rfl 19 ?_
   refine .sk rfl 19 ?_
   refine .e rfl (fun H=>x_pkF (H.g 211 19) (H.c _)) ?_ (hg:=gq 10 rfl)
   refine .mv rfl 23 ?_ (hg:=gq 10 rfl)
   refine .sk rfl 24 ?_
   refine .sk rfl 24 ?_
   refine .sk rfl 24 ?_
   refine .sk rfl 24 ?_
   refine .e rfl (fun H=>x_pkF (H.g 216 24) (H.c _)) ?_ (hg:=gq 10 rfl)
   refine .e rfl (fun H=>x_pkF (H.g 202 10) (H.g 221 29)) ?_
   refine .dk (fun u=>gV x::gV y::gV z::sq u1 0 4 (u3 7::u3 8::u3 11::U::U::U::U::U::U::sq u5 8 3 (u5 14::u6 6::u6 8::u7 6::u7 8::u8 6::u8 8::u9 6::u9 8::u10 5::u10 7::u11 6::u11 8::gV x::gV y::gV z::.slice p_q ([rg x,rg y,rg z]).length c_q::.bool false::.bool false::gV x::.bool true::.bool false::.bool false::.bool false::gV y::.bool true::.bool false::.bool false::.bool false::gV z::.bool true::.bool false::.bool false::U::u3 3::sq u3 0 3 (sq u3 4 3 (sq u4 0 3 (sq uu 0 46 (u5 3::sq u5 0 3 (sq u5 4 4 (u6 3::sq u6 0 3 (u6 4::u6 5::u7 3::sq u7 0 3 (u7 4::u7 5::u8 3::sq u8 0 3 (u8 4::u8 5::u9 3::sq u9 0 3 (u9 4::u9 5::u10 2::u10 0::u10 1::u10 3::u10 4::u11 3::sq u11 0 3 (u11 4::u11 5::sq u12 0 29 (u13 0::u13 1::sq uu 0 9 (sq u 0 31 (us 13))))))))))))))))) K41 bel fun u15 w15 D bel=>?_
   have E15_30:=D.q 30
   replace B19:=D.k B19
   replace B_q:=fun h=>D.k (B_q h)
   clear D
   refine wp_cond_false (by exact E15_30) ?_
   refine wp_skip ?_
   refine K40 _ _ ?_
   refine gs 14 (Amb Z0 W) fun _ K43=>?_
   refine .fz rfl 16 0 E5_8 ?_
   refine .lp rfl 0 (fC d.re) B19 ?_
   refine .cK rfl Tryz.func45 (fun H=>⟨_,ar1 (H.g 224 1),frSign _ (by first | exact p9 | assumption | exact len3_le)⟩) ?_
   refine .e rfl (V:=.bool true) (fun H=>x_cm (H.g 225 2) (H.c _) (decide_eq_true e7)) ?_
   refine .mv rfl 3 ?_
   refine .fz rfl 16 4 E5_8 ?_ (hg:=gq 4 rfl)
   refine .lp rfl 5 (fC d.im) B19 ?_ (hg:=gq 4 rfl)
   refine .cK rfl Tryz.func45 (fun H=>⟨_,ar1 (H.g 229 6),frSign _ (by first | exact p9 | assumption | exact len3_le)⟩) ?_ (hg:=gq 4 rfl)
   refine .e rfl (V:=.bool true) (fun H=>x_cm (H.g 230 7) (H.c _) (decide_eq_true e8)) ?_ (hg:=gq 4 rfl)
   refine .e rfl (fun H=>x_pkT (H.g 227 4) (H.g 231 8)) ?_
   refine .mv rfl 9 ?_
   refine .cK rfl Tryz.func9 (fun H=>⟨_,ar0,lKnown⟩) ?_ (hg:=gq 10 rfl)
   refine .e rfl (fun H=>x_pkT (H.g 233 10) (H.g 234 11)) ?_
   refine .mv rfl 12 ?_
   refine .dk (fun u=>gV x::gV y::gV z::sq u1 0 3 (u 13::u3 7::u3 8::u3 11::U::U::U::U::U::U::sq u5 8 3 (u5 14::u6 6::u6 8::u7 6::u7 8::u8 6::u8 8::u9 6::u9 8::u10 5::u10 7::u11 6::u11 8::gV x::gV y::gV z::.slice p_q ([rg x,rg y,rg z]).length c_q::.bool false::.bool false::gV x::.bool true::.bool false::.bool false::.bool false::gV y::.bool true::.bool false::.bool false::.bool false::gV z::.bool true::.bool false::.bool false::U::u3 3::sq u3 0 3 (sq u3 4 3 (sq u4 0 3 (sq uu 0 46 (u5 3::sq u5 0 3 (sq u5 4 4 (u6 3::sq u6 0 3 (u6 4::u6 5::u7 3::sq u7 0 3 (u7 4::u7 5::u8 3::sq u8 0 3 (u8 4::u8 5::u9 3::sq u9 0 3 (u9 4::u9 5::u10 2::u10 0::u10 1::u10 3::u10 4::u11 3::sq u11 0 3 (u11 4::u11 5::sq u12 0 29 (u13 0::u13 1::sq uu 0 9 (sq u15 0 31 (sq u 0 13 []))))))))))))))))) K43 bel fun u16 w16 D bel=>?_
   have E16_13:=D.q 13
   replace B_q:=fun h=>D.k (B_q h)
   clear D
   exact wp_ret (rt rfl E16_13 rfl bel)
  ·
   obtain ⟨e9,e10,e11⟩:=p15 c42
   rcases Bool.eq_false_or_eq_true (dvB z x) with c44 | c44
   ·
    rcases Bool.eq_false_or_eq_true (dvB z y) with c45 | c45
    ·
     refine gs 31 (Amb Z0 W) fun _ K41=>?_
     refine .lr rfl 16 E5_8 B19 ?_
     refine .lr rfl 3 E1_0 B2 ?_
     refine .cK rfl (V:=.bool true) Tryz.func44 (fun H=>⟨_,ar2 (H.g 192 0) (H.g 193 1),reV (congrArg Value.bool e3) (iDvd _ _ (by first | exact p9 | assumption | exact len3_le))⟩) ?_
     refine .e rfl (V:=.bool false) (fun H=>x_not (H.g 194 2)) ?_
     refine .mv rfl 3 ?_
     refine .lr rfl 16 E5_8 B19 ?_ (hg:=gq 4 rfl)
     refine .lr rfl 4 E1_1 B3 ?_ (hg:=gq 4 rfl)
     refine .cK rfl (V:=.bool true) Tryz.func44 (fun H=>⟨_,ar2 (H.g 197 5) (H.g 198 6),reV (congrArg Value.bool e4) (iDvd _ _ (by first | exact p9 | assumption | exact len3_le))⟩) ?_ (hg:=gq 4 rfl)
     refine .e rfl (V:=.bool false) (fun H=>x_not (H.g 199 7)) ?_ (hg:=gq 4 rfl)
     refine .e rfl (fun H=>x_pkF (H.g 196 4) (H.g 200 8)) ?_
     refine .mv rfl 9 ?_
     refine .lr rfl 5 E1_2 B4 ?_ (hg:=gq 10 rfl)
     refine .cK rfl (V:=.bool false) Tryz.func37 (fun H=>⟨_,ar1 (H.g 203 11),reV (congrArg Value.bool c42) (iZero _)⟩) ?_ (hg:=gq 10 rfl)
     refine .e rfl (V:=.bool true) (fun H=>x_not (H.g 204 12)) ?_ (hg:=gq 10 rfl)
     refine .mv rfl 13 ?_ (hg:=gq 10 rfl)
     refine .lr rfl 5 E1_2 B4 ?_ (hg:=gq 14 rfl)
     refine .lr rfl 3 E1_0 B2 ?_ (hg:=gq 14 rfl)
     refine .cK rfl (V:=.bool true) Tryz.func44 (fun H=>⟨_,ar2 (H.g 207 15) (H.g 208 16),reV (congrArg Value.bool c44) (iDvd _ _ (by first | exact p9 | assumption | exact len3_le))⟩) ?_ (hg:=gq 14 rfl)
     refine .e rfl (fun H=>x_pkT (H.g 206 14) (H.g 209 17)) ?_ (hg:=gq 10 rfl)
     refine .mv rfl 18 ?_ (hg:=gq 10 rfl)
     refine .lr rfl 5 E1_2 B4 ?_ (hg:=gq 19 rfl)
     refine .lr rfl 4 E1_1 B3 ?_ (hg:=gq 19 rfl)
     refine .cK rfl (V:=.bool true) Tryz.func44 (fun H=>⟨_,ar2 (H.g 212 20) (H.g 213 21),reV (congrArg Value.bool c45) (iDvd _ _ (by first | exact p9 | assumption | exact len3_le))⟩) ?_ (hg:=gq 19 rfl)
     refine .e rfl (fun H=>x_pkT (H.g 211 19) (H.g 214 22)) ?_ (hg:=gq 10 rfl)
     refine .mv rfl 23 ?_ (hg:=gq 10 rfl)
     refine .lr rfl 5 E1_2 B4 ?_ (hg:=gq 24 rfl)
     refine .lr rfl 16 E5_8 B19 ?_ (hg:=gq 24 rfl)
     refine .cK rfl (V:=.bool true) Tryz.func44 (fun H=>⟨_,ar2 (H.g 217 25) (H.g 218 26),reV (congrArg Value.bool (p16 (by assumption) (by assumption) (by assumption))) (iDvd _ _ (by first | exact p9 | assumption | exact len3_le))⟩) ?_ (hg:=gq 24 rfl)
     refine .e rfl (V:=.bool false) (fun H=>x_not (H.g 219 27)) ?_ (hg:=gq 24 rfl)
     refine .e rfl (fun H=>x_pkT (H.g 216 24) (H.g 220 28)) ?_ (hg:=gq 10 rfl)
     refine .e rfl (fun H=>x_pkF (H.g 202 10) (H.g 221 29)) ?_
     refine .dk (fun u=>gV x::gV y::gV z::sq u1 0 4 (u3 7::u3 8::u3 11::U::U::U::U::U::U::sq u5 8 3 (u5 14::u6 6::u6 8::u7 6::u7 8::u8 6::u8 8::u9 6::u9 8::u10 5::u10 7::u11 6::u11 8::gV x::gV y::gV z::.slice p_q ([rg x,rg y,rg z]).length c_q::.bool false::.bool false::gV x::.bool true::.bool false::.bool false::.bool false::gV y::.bool true::.bool false::.bool false::.bool false::gV z::.bool true::.bool false::.bool false::U::u3 3::sq u3 0 3 (sq u3 4 3 (sq u4 0 3 (sq uu 0 46 (u5 3::sq u5 0 3 (sq u5 4 4 (u6 3::sq u6 0 3 (u6 4::u6 5::u7 3::sq u7 0 3 (u7 4::u7 5::u8 3::sq u8 0 3 (u8 4::u8 5::u9 3::sq u9 0 3 (u9 4::u9 5::u10 2::u10 0::u10 1::u10 3::u10 4::u11 3::sq u11 0 3 (u11 4::u11 5::sq u12 0 29 (u13 0::u13 1::sq uu 0 9 (sq u 0 31 (us 13))))))))))))))))) K41 bel fun u15 w15 D bel=>?_
     have E15_30:=D.q 30
     replace B19:=D.k B19
     replace B_q:=fun h=>D.k (B_q h)
     clear D
     refine wp_cond_false (by exact E15_30) ?_
     refine wp_skip ?_
     refine K40 _ _ ?_
     refine gs 14 (Amb Z0 W) fun _ K46=>?_
     refine .fz rfl 16 0 E5_8 ?_
     refine .lp rfl 0 (fC d.re) B19 ?_
     refine .cK rfl Tryz.func45 (fun H=>⟨_,ar1 (H.g 224 1),frSign _ (by first | exact p9 | assumption | exact len3_le)⟩) ?_
     refine .e rfl (V:=.bool true) (fun H=>x_cm (H.g 225 2) (H.c _) (decide_eq_true e7)) ?_
     refine .mv rfl 3 ?_
     refine .fz rfl 16 4 E5_8 ?_ (hg:=gq 4 rfl)
     refine .lp rfl 5 (fC d.im) B19 ?_ (hg:=gq 4 rfl)
     refine .cK rfl Tryz.func45 (fun H=>⟨_,ar1 (H.g 229 6),frSign _ (by first | exact p9 | assumption | exact len3_le)⟩) ?_ (hg:=gq 4 rfl)
     refine .e rfl (V:=.bool true) (fun H=>x_cm (H.g 230 7) (H.c _) (decide_eq_true e8)) ?_ (hg:=gq 4 rfl)
     refine .e rfl (fun H=>x_pkT (H.g 227 4) (H.g 231 8)) ?_
     refine .mv rfl 9 ?_
     refine .cK rfl Tryz.func9 (fun H=>⟨_,ar0,lKnown⟩) ?_ (hg:=gq 10 rfl)
     refine .e rfl (fun H=>x_pkT (H.g 233 10) (H.g 234 11)) ?_
     refine .mv rfl 12 ?_
     refine .dk (fun u=>gV x::gV y::gV z::sq u1 0 3 (u 13::u3 7::u3 8::u3 11::U::U::U::U::U::U::sq u5 8 3 (u5 14::u6 6::u6 8::u7 6::u7 8::u8 6::u8 8::u9 6::u9 8::u10 5::u10 7::u11 6::u11 8::gV x::gV y::gV z::.slice p_q ([rg x,rg y,rg z]).length c_q::.bool false::.bool false::gV x::.bool true::.bool false::.bool false::.bool false::gV y::.bool true::.bool false::.bool false::.bool false::gV z::.bool true::.bool false::.bool false::U::u3 3::sq u3 0 3 (sq u3 4 3 (sq u4 0 3 (sq uu 0 46 (u5 3::sq u5 0 3 (sq u5 4 4 (u6 3::sq u6 0 3 (u6 4::u6 5::u7 3::sq u7 0 3 (u7 4::u7 5::u8 3::sq u8 0 3 (u8 4::u8 5::u9 3::sq u9 0 3 (u9 4::u9 5::u10 2::u10 0::u10 1::u10 3::u10 4::u11 3::sq u11 0 3 (u11 4::u11 5::sq u12 0 29 (u13 0::u13 1::sq uu 0 9 (sq u15 0 31 (sq u 0 13 []))))))))))))))))) K46 bel fun u16 w16 D bel=>?_
     have E16_13:=D.q 13
     replace B_q:=fun h=>D.k (B_q h)
     clear D
     exact wp_ret (rt rfl E16_13 rfl bel)
    ·
     refine gs 31 (Amb Z0 W) fun _ K41=>?_
     refine .lr rfl 16 E5_8 B19 ?_
     refine .lr rfl 3 E1_0 B2 ?_
     refine .cK rfl (V:=.bool true) Tryz.func44 (fun H=>⟨_,ar2 (H.g 192 0) (H.g 193 1),reV (congrArg Value.bool e3) (iDvd _ _ (by first | exact p9 | assumption | exact len3_le))⟩) ?_
     refine .e rfl (V:=.bool false) (fun H=>x_not (H.g 194 2)) ?_
     refine .mv rfl 3 ?_
     refine .lr rfl 16 E5_8 B19 ?_ (hg:=gq 4 rfl)
     refine .lr rfl 4 E1_1 B3 ?_ (hg:=gq 4 rfl)
     refine .cK rfl (V:=.bool true) Tryz.func44 (fun H=>⟨_,ar2 (H.g 197 5) (H.g 198 6),reV (congrArg Value.bool e4) (iDvd _ _ (by first | exact p9 | assumption | exact len3_le))⟩) ?_ (hg:=gq 4 rfl)
     refine .e rfl (V:=.bool false) (fun H=>x_not (H.g 199 7)) ?_ (hg:=gq 4 rfl)
     refine .e rfl (fun H=>x_pkF (H.g 196 4) (H.g 200 8)) ?_
     refine .mv rfl 9 ?_
     refine .lr rfl 5 E1_2 B4 ?_ (hg:=gq 10 rfl)
     refine .cK rfl (V:=.bool false) Tryz.func37 (fun H=>⟨_,ar1 (H.g 203 11),reV (congrArg Value.bool c42) (iZero _)⟩) ?_ (hg:=gq 10 rfl)
     refine .e rfl (V:=.bool true) (fun H=>x_not (H.g 204 12)) ?_ (hg:=gq 10 rfl)
     refine .mv rfl 13 ?_ (hg:=gq 10 rfl)
     refine .lr rfl 5 E1_2 B4 ?_ (hg:=gq 14 rfl)
     refine .lr rfl 3 E1_0 B2 ?_ (hg:=gq 14 rfl)
     refine .cK rfl (V:=.bool true) Tryz.func44 (fun H=>⟨_,ar2 (H.g 207 15) (H.g 208 16),reV (congrArg Value.bool c44) (iDvd _ _ (by first | exact p9 | assumption | exact len3_le))⟩) ?_ (hg:=gq 14 rfl)
     refine .e rfl (fun H=>x_pkT (H.g 206 14) (H.g 209 17)) ?_ (hg:=gq 10 rfl)
     refine .mv rfl 18 ?_ (hg:=gq 10 rfl)
     refine .lr rfl 5 E1_2 B4 ?_ (hg:=gq 19 rfl)
     refine .lr rfl 4 E1_1 B3 ?_ (hg:=gq 19 rfl)
     refine .cK rfl (V:=.bool false) Tryz.func44 (fun H=>⟨_,ar2 (H.g 212 20) (H.g 213 21),reV (congrArg Value.bool c45) (iDvd _ _ (by first | exact p9 | assumption | exact len3_le))⟩) ?_ (hg:=gq 19 rfl)
     refine .e rfl (fun H=>x_pkT (H.g 211 19) (H.g 214 22)) ?_ (hg:=gq 10 rfl)
     refine .mv rfl 23 ?_ (hg:=gq 10 rfl)
     refine .sk rfl 24 ?_
     refine .sk rfl 24 ?_
     refine .sk rfl 24 ?_
     refine .sk rfl 24 ?_
     refine .e rfl (fun H=>x_pkF (H.g 216 24) (H.c _)) ?_ (hg:=gq 10 rfl)
     refine .e rfl (fun H=>x_pkF (H.g 202 10) (H.g 221 29)) ?_
     refine .dk (fun u=>gV x::gV y::gV z::sq u1 0 4 (u3 7::u3 8::u3 11::U::U::U::U::U::U::sq u5 8 3 (u5 14::u6 6::u6 8::u7 6::u7 8::u8 6::u8 8::u9 6::u9 8::u10 5::u10 7::u11 6::u11 8::gV x::gV y::gV z::.slice p_q ([rg x,rg y,rg z]).length c_q::.bool false::.bool false::gV x::.bool true::.bool false::.bool false::.bool false::gV y::.bool true::.bool false::.bool false::.bool false::gV z::.bool true::.bool false::.bool false::U::u3 3::sq u3 0 3 (sq u3 4 3 (sq u4 0 3 (sq uu 0 46 (u5 3::sq u5 0 3 (sq u5 4 4 (u6 3::sq u6 0 3 (u6 4::u6 5::u7 3::sq u7 0 3 (u7 4::u7 5::u8 3::sq u8 0 3 (u8 4::u8 5::u9 3::sq u9 0 3 (u9 4::u9 5::u10 2::u10 0::u10 1::u10 3::u10 4::u11 3::sq u11 0 3 (u11 4::u11 5::sq u12 0 29 (u13 0::u13 1::sq uu 0 9 (sq u 0 31 (us 13))))))))))))))))) K41 bel fun u15 w15 D bel=>?_
     have E15_30:=D.q 30
     replace B19:=D.k B19
     replace B_q:=fun h=>D.k (B_q h)
     clear D
     refine wp_cond_false (by exact E15_30) ?_
     refine wp_skip ?_
     refine K40 _ _ ?_
     refine gs 14 (Amb Z0 W) fun _ K47=>?_
     refine .fz rfl 16 0 E5_8 ?_
     refine .lp rfl 0 (fC d.re) B19 ?_
     refine .cK rfl Tryz.func45 (fun H=>⟨_,ar1 (H.g 224 1),frSign _ (by first | exact p9 | assumption | exact len3_le)⟩) ?_
     refine .e rfl (V:=.bool true) (fun H=>x_cm (H.g 225 2) (H.c _) (decide_eq_true e7)) ?_
     refine .mv rfl 3 ?_
     refine .fz rfl 16 4 E5_8 ?_ (hg:=gq 4 rfl)
     refine .lp rfl 5 (fC d.im) B19 ?_ (hg:=gq 4 rfl)
     refine .cK rfl Tryz.func45 (fun H=>⟨_,ar1 (H.g 229 6),frSign _ (by first | exact p9 | assumption | exact len3_le)⟩) ?_ (hg:=gq 4 rfl)
     refine .e rfl (V:=.bool true) (fun H=>x_cm (H.g 230 7) (H.c _) (decide_eq_true e8)) ?_ (hg:=gq 4 rfl)
     refine .e rfl (fun H=>x_pkT (H.g 227 4) (H.g 231 8)) ?_
     refine .mv rfl 9 ?_
     refine .cK rfl Tryz.func9 (fun H=>⟨_,ar0,lKnown⟩) ?_ (hg:=gq 10 rfl)
     refine .e rfl (fun H=>x_pkT (H.g 233 10) (H.g 234 11)) ?_
     refine .mv rfl 12 ?_
     refine .dk (fun u=>gV x::gV y::gV z::sq u1 0 3 (u 13::u3 7::u3 8::u3 11::U::U::U::U::U::U::sq u5 8 3 (u5 14::u6 6::u6 8::u7 6::u7 8::u8 6::u8 8::u9 6::u9 8::u10 5::u10 7::u11 6::u11 8::gV x::gV y::gV z::.slice p_q ([rg x,rg y,rg z]).length c_q::.bool false::.bool false::gV x::.bool true::.bool false::.bool false::.bool false::gV y::.bool true::.bool false::.bool false::.bool false::gV z::.bool true::.bool false::.bool false::U::u3 3::sq u3 0 3 (sq u3 4 3 (sq u4 0 3 (sq uu 0 46 (u5 3::sq u5 0 3 (sq u5 4 4 (u6 3::sq u6 0 3 (u6 4::u6 5::u7 3::sq u7 0 3 (u7 4::u7 5::u8 3::sq u8 0 3 (u8 4::u8 5::u9 3::sq u9 0 3 (u9 4::u9 5::u10 2::u10 0::u10 1::u10 3::u10 4::u11 3::sq u11 0 3 (u11 4::u11 5::sq u12 0 29 (u13 0::u13 1::sq uu 0 9 (sq u15 0 31 (sq u 0 13 []))))))))))))))))) K47 bel fun u16 w16 D bel=>?_
     have E16_13:=D.q 13
     replace B_q:=fun h=>D.k (B_q h)
     clear D
     exact wp_ret (rt rfl E16_13 rfl bel)
   ·
    refine gs 31 (Amb Z0 W) fun _ K41=>?_
    refine .lr rfl 16 E5_8 B19 ?_
    refine .lr rfl 3 E1_0 B2 ?_
    refine .cK rfl (V:=.bool true) Tryz.func44 (fun H=>⟨_,ar2 (H.g 192 0) (H.g 193 1),reV (congrArg Value.bool e3) (iDvd _ _ (by first | exact p9 | assumption | exact len3_le))⟩) ?_
    refine .e rfl (V:=.bool false) (fun H=>x_not (H.g 194 2)) ?_
    refine .mv rfl 3 ?_
    refine .lr rfl 16 E5_8 B19 ?_ (hg:=gq 4 rfl)
    refine .lr rfl 4 E1_1 B3 ?_ (hg:=gq 4 rfl)
    refine .cK rfl (V:=.bool true) Tryz.func44 (fun H=>⟨_,ar2 (H.g 197 5) (H.g 198 6),reV (congrArg Value.bool e4) (iDvd _ _ (by first | exact p9 | assumption | exact len3_le))⟩) ?_ (hg:=gq 4 rfl)
    refine .e rfl (V:=.bool false) (fun H=>x_not (H.g 199 7)) ?_ (hg:=gq 4 rfl)
    refine .e rfl (fun H=>x_pkF (H.g 196 4) (H.g 200 8)) ?_
    refine .mv rfl 9 ?_
    refine .lr rfl 5 E1_2 B4 ?_ (hg:=gq 10 rfl)
    refine .cK rfl (V:=.bool false) Tryz.func37 (fun H=>⟨_,ar1 (H.g 203 11),reV (congrArg Value.bool c42) (iZero _)⟩) ?_ (hg:=gq 10 rfl)
    refine .e rfl (V:=.bool true) (fun H=>x_not (H.g 204 12)) ?_ (hg:=gq 10 rfl)
    refine .mv rfl 13 ?_ (hg:=gq 10 rfl)
    refine .lr rfl 5 E1_2 B4 ?_ (hg:=gq 14 rfl)
    refine .lr rfl 3 E1_0 B2 ?_ (hg:=gq 14 rfl)
    refine .cK rfl (V:=.bool false) Tryz.func44 (fun H=>⟨_,ar2 (H.g 207 15) (H.g 208 16),reV (congrArg Value.bool c44) (iDvd _ _ (by first | exact p9 | assumption | exact len3_le))⟩) ?_ (hg:=gq 14 rfl)
    refine .e rfl (fun H=>x_pkT (H.g 206 14) (H.g 209 17)) ?_ (hg:=gq 10 rfl)
    refine .mv rfl 18 ?_ (hg:=gq 10 rfl)
    refine .sk rfl 19 ?_
    refine .sk rfl 19 ?_
    refine .sk rfl 19 ?_
    refine .e rfl (fun H=>x_pkF (H.g 211 19) (H.c _)) ?_ (hg:=gq 10 rfl)
    refine .mv rfl 23 ?_ (hg:=gq 10 rfl)
    refine .sk rfl 24 ?_
    refine .sk rfl 24 ?_
    refine .sk rfl 24 ?_
    refine .sk rfl 24 ?_
    refine .e rfl (fun H=>x_pkF (H.g 216 24) (H.c _)) ?_ (hg:=gq 10 rfl)
    refine .e rfl (fun H=>x_pkF (H.g 202 10) (H.g 221 29)) ?_
    refine .dk (fun u=>gV x::gV y::gV z::sq u1 0 4 (u3 7::u3 8::u3 11::U::U::U::U::U::U::sq u5 8 3 (u5 14::u6 6::u6 8::u7 6::u7 8::u8 6::u8 8::u9 6::u9 8::u10 5::u10 7::u11 6::u11 8::gV x::gV y::gV z::.slice p_q ([rg x,rg y,rg z]).length c_q::.bool false::.bool false::gV x::.bool true::.bool false::.bool false::.bool false::gV y::.bool true::.bool false::.bool false::.bool false::gV z::.bool true::.bool false::.bool false::U::u3 3::sq u3 0 3 (sq u3 4 3 (sq u4 0 3 (sq uu 0 46 (u5 3::sq u5 0 3 (sq u5 4 4 (u6 3::sq u6 0 3 (u6 4::u6 5::u7 3::sq u7 0 3 (u7 4::u7 5::u8 3::sq u8 0 3 (u8 4::u8 5::u9 3::sq u9 0 3 (u9 4::u9 5::u10 2::u10 0::u10 1::u10 3::u10 4::u11 3::sq u11 0 3 (u11 4::u11 5::sq u12 0 29 (u13 0::u13 1::sq uu 0 9 (sq u 0 31 (us 13))))))))))))))))) K41 bel fun u15 w15 D bel=>?_
    have E15_30:=D.q 30
    replace B19:=D.k B19
    replace B_q:=fun h=>D.k (B_q h)
    clear D
    refine wp_cond_false (by exact E15_30) ?_
    refine wp_skip ?_
    refine K40 _ _ ?_
    refine gs 14 (Amb Z0 W) fun _ K48=>?_
    refine .fz rfl 16 0 E5_8 ?_
    refine .lp rfl 0 (fC d.re) B19 ?_
    refine .cK rfl Tryz.func45 (fun H=>⟨_,ar1 (H.g 224 1),frSign _ (by first | exact p9 | assumption | exact len3_le)⟩) ?_
    refine .e rfl (V:=.bool true) (fun H=>x_cm (H.g 225 2) (H.c _) (decide_eq_true e7)) ?_
    refine .mv rfl 3 ?_
    refine .fz rfl 16 4 E5_8 ?_ (hg:=gq 4 rfl)
    refine .lp rfl 5 (fC d.im) B19 ?_ (hg:=gq 4 rfl)
    refine .cK rfl Tryz.func45 (fun H=>⟨_,ar1 (H.g 229 6),frSign _ (by first | exact p9 | assumption | exact len3_le)⟩) ?_ (hg:=gq 4 rfl)
    refine .e rfl (V:=.bool true) (fun H=>x_cm (H.g 230 7) (H.c _) (decide_eq_true e8)) ?_ (hg:=gq 4 rfl)
    refine .e rfl (fun H=>x_pkT (H.g 227 4) (H.g 231 8)) ?_
    refine .mv rfl 9 ?_
    refine .cK rfl Tryz.func9 (fun H=>⟨_,ar0,lKnown⟩) ?_ (hg:=gq 10 rfl)
    refine .e rfl (fun H=>x_pkT (H.g 233 10) (H.g 234 11)) ?_
    refine .mv rfl 12 ?_
    refine .dk (fun u=>gV x::gV y::gV z::sq u1 0 3 (u 13::u3 7::u3 8::u3 11::U::U::U::U::U::U::sq u5 8 3 (u5 14::u6 6::u6 8::u7 6::u7 8::u8 6::u8 8::u9 6::u9 8::u10 5::u10 7::u11 6::u11 8::gV x::gV y::gV z::.slice p_q ([rg x,rg y,rg z]).length c_q::.bool false::.bool false::gV x::.bool true::.bool false::.bool false::.bool false::gV y::.bool true::.bool false::.bool false::.bool false::gV z::.bool true::.bool false::.bool false::U::u3 3::sq u3 0 3 (sq u3 4 3 (sq u4 0 3 (sq uu 0 46 (u5 3::sq u5 0 3 (sq u5 4 4 (u6 3::sq u6 0 3 (u6 4::u6 5::u7 3::sq u7 0 3 (u7 4::u7 5::u8 3::sq u8 0 3 (u8 4::u8 5::u9 3::sq u9 0 3 (u9 4::u9 5::u10 2::u10 0::u10 1::u10 3::u10 4::u11 3::sq u11 0 3 (u11 4::u11 5::sq u12 0 29 (u13 0::u13 1::sq uu 0 9 (sq u15 0 31 (sq u 0 13 []))))))))))))))))) K48 bel fun u16 w16 D bel=>?_
    have E16_13:=D.q 13
    replace B_q:=fun h=>D.k (B_q h)
    clear D
    exact wp_ret (rt rfl E16_13 rfl bel)
theorem lRest5 {d:Cx} {u:Cx} {v:Cx} {q:Cx} {r:Cx} (x:Cx) (y:Cx) (z:Cx) (p0:wideU (40:Int) ([rg x,rg y,rg z]) = false) (p1:gwhole (rg x) = true) (p2:gwhole (rg y) = true) (p3:gwhole (rg z) = true) (p4:CombIs x y d u v) (p5:MulIs u x) (p6:MulIs v y) (p7:AddIs (u.mul x) (v.mul y)) (p8:(u.mul x).add (v.mul y) = d) (p9:GcdIs y x d) (p10:TurnIs x) (p11:GcdIs (x.mul (Cx.ofInt (0:Int) (1:Int))) y d) (p12:d.zero = true → x.zero = true ∧ y.zero = true) (p13:d.zero = false → (DvdIs d x ∧ DvdIs d y) ∧ (dvB d x = true ∧ dvB d y = true) ∧ (fmay (rf d.re) = true ∧ fmay (rf d.im) = true)) (p14:d.zero = false → 0 < (wsign (rw d.re.num)) ∧ 0 ≤ (wsign (rw d.im.num))) (p15:z.zero = false → DvdIs z x ∧ DvdIs z y ∧ DvdIs z d) (p16:z.zero = false → dvB z x = true → dvB z y = true → dvB z d = true) (p17:y.zero = false) (p18:d.zero = false) (p19:DivIs x y q r) (p20:MulIs q y) (p21:AddIs (q.mul y) r) (p22:(q.mul y).add r = x) (p23:NormIs r) (p24:NormIs y) (p25:FAddIs r.norm r.norm) (p26:UnderIs (r.norm + r.norm) y.norm) :
  Calls Tryz.prog 6 #[gV x,gV y,gV z] W (RetV (.bool true) W):=by
 obtain ⟨⟨e1,e2⟩,⟨e3,e4⟩,e5,e6⟩:=p13 p18
 obtain ⟨e7,e8⟩:=p14 p18
 have bel:=b0 W
 go_enter Tryz.func6,Tryz.ntmps6
 refine gs 4 (Amb Z0 W) fun _ K1=>?_
 refine .bx rfl (fun H=>H.v 0 (gV x)) ?_
 refine .bx rfl (fun H=>H.v 1 (gV y)) ?_
 refine .bx rfl (fun H=>H.v 2 (gV z)) ?_
 refine .mc rfl ?_
 refine .dk (fun u=>gV x::gV y::gV z::sq u 0 4 (us 229)) K1 bel fun u1 w1 D bel=>?_
 obtain ⟨b2,E1_0,A2,B2⟩:=D.nw 0
 obtain ⟨b3,E1_1,A3,B3⟩:=D.nw 1
 obtain ⟨b4,E1_2,A4,B4⟩:=D.nw 2
 have E1_3:=D.q 3
 clear D
 refine wp_seq_k fun _ K5=>?_
 refine wp_seq_k fun _ K6=>?_
 refine wp_region_list ?_
 refine wpT_val (v:=gV x) rfl (ex_load_row 30 _ rfl (by exact E1_0) B2 Tryz.underlying30 rfl (by kernel_rfl)) ?_
 refine wpList_as (fr (gV x::gV y::gV z::sq u1 0 4 (sq uu 0 25 (gV x::us 203)))) (by kernel_rfl) ?_
 refine wpT_val (v:=gV y) rfl (ex_load_row 30 _ rfl (by exact E1_1) B3 Tryz.underlying30 rfl (by kernel_rfl)) ?_
 refine wpList_as (fr (gV x::gV y::gV z::sq u1 0 4 (sq uu 0 25 (gV x::gV y::us 202)))) (by kernel_rfl) ?_
 refine wpT_val (v:=gV z) rfl (ex_load_row 30 _ rfl (by exact E1_2) B4 Tryz.underlying30 rfl (by kernel_rfl)) ?_
 refine wpList_as (fr (gV x::gV y::gV z::sq u1 0 4 (sq uu 0 25 (gV x::gV y::gV z::us 201)))) (by kernel_rfl) ?_
 refine wpT_lit3 (r0:=rg x) (r1:=rg y) (r2:=rg z) rfl rfl rfl rfl rfl fun v8 w7 tw7 mw7 ow7=>?_
 obtain ⟨p_q,c_q,cur_q,T_q,fr_q,rfl,y_q,z_q,P_q,B_q,Q_q⟩:=GSl.open tw7
 replace mw7:=mw7 _ _ _ rfl
 have N_q_b2:=Nat.ne_of_lt (Nat.lt_of_lt_of_le (lt_of B2) mw7)
 have N_q_b3:=Nat.ne_of_lt (Nat.lt_of_lt_of_le (lt_of B3) mw7)
 have N_q_b4:=Nat.ne_of_lt (Nat.lt_of_lt_of_le (lt_of B4) mw7)
 replace B2:=(ow7.block b2 (lt_of B2)).trans B2
 replace B3:=(ow7.block b3 (lt_of B3)).trans B3
 replace B4:=(ow7.block b4 (lt_of B4)).trans B4
 replace bel:=bel.trans (ow7.mono bel.size)
 replace P_q:=Lib.hid P_q
 have X_q:=GSl.lt B_q
 refine wpList_as (fr (gV x::gV y::gV z::sq u1 0 4 (sq uu 0 25 (gV x::gV y::gV z::.slice p_q ([rg x,rg y,rg z]).length c_q::us 200)))) (by kernel_rfl) ?_
 refine wpT_callKW (V:=.bool false) (wanted_none rfl _) (ex_call rfl rfl Tryz.func8 (by kernel_rfl) (by kernel_rfl) (by simp only [List.map_toArray,List.map_cons,List.map_nil]; rfl)) (reV (congrArg Value.bool p0) (lWide (most:=(40:Int)) (l:=[rg x,rg y,rg z]) (GSl.mk y_q z_q P_q.out B_q Q_q) (by first | exact p9 | assumption | exact len3_le))) fun w9 ow9=>?_
 replace B2:=(ow9.block b2 (lt_of B2)).trans B2
 replace B3:=(ow9.block b3 (lt_of B3)).trans B3
 replace B4:=(ow9.block b4 (lt_of B4)).trans B4
 replace B_q:=fun h=>(ow9.block _ (lt_of (B_q h))).trans (B_q h)
 replace bel:=bel.trans (ow9.mono bel.size)
 refine wpList_as (fr (gV x::gV y::gV z::sq u1 0 4 (sq uu 0 25 (gV x::gV y::gV z::.slice p_q ([rg x,rg y,rg z]).length c_q::.bool false::us 199)))) (by kernel_rfl) ?_
 refine wpT_val rfl (ex_move rfl) ?_
 refine wpList_as (fr (gV x::gV y::gV z::sq u1 0 4 (sq uu 0 25 (gV x::gV y::gV z::.slice p_q ([rg x,rg y,rg z]).length c_q::.bool false::.bool false::us 198)))) (by kernel_rfl) ?_
 refine wpT_valW (v:=gV x) (by kernel_rfl) (ex_load_row 30 _ rfl (by exact E1_0) B2 Tryz.underlying30 rfl (by kernel_rfl)) ?_
 refine wpList_as (fr (gV x::gV y::gV z::sq u1 0 4 (sq uu 0 25 (gV x::gV y::gV z::.slice p_q ([rg x,rg y,rg z]).length c_q::.bool false::.bool false::gV x::us 197)))) (by kernel_rfl) ?_
 refine wpT_callKW (V:=.bool true) (by kernel_rfl) (ex_call rfl rfl Tryz.func28 (by kernel_rfl) (by kernel_rfl) (by simp only [List.map_toArray,List.map_cons,List.map_nil]; rfl)) (reV (congrArg Value.bool p1) (hWhole (r:=(rg x))  )) fun w10 ow10=>?_
 replace B2:=(ow10.block b2 (lt_of B2)).trans B2
 replace B3:=(ow10.block b3 (lt_of B3)).trans B3
 replace B4:=(ow10.block b4 (lt_of B4)).trans B4
 replace B_q:=fun h=>(ow10.block _ (lt_of (B_q h))).trans (B_q h)
 replace bel:=bel.trans (ow10.mono bel.size)
 refine wpList_as (fr (gV x::gV y::gV z::sq u1 0 4 (sq uu 0 25 (gV x::gV y::gV z::.slice p_q ([rg x,rg y,rg z]).length c_q::.bool false::.bool false::gV x::.bool true::us 196)))) (by kernel_rfl) ?_
 refine wpT_valW (v:=.bool false) (by kernel_rfl) (by go_simp) ?_
 refine wpList_as (fr (gV x::gV y::gV z::sq u1 0 4 (sq uu 0 25 (gV x::gV y::gV z::.slice p_q ([rg x,rg y,rg z]).length c_q::.bool false::.bool false::gV x::.bool true::.bool false::us 195)))) (by kernel_rfl) ?_
 refine wpT_val (v:=.bool false) rfl (by go_simp) ?_
 refine wpList_as (fr (gV x::gV y::gV z::sq u1 0 4 (sq uu 0 25 (gV x::gV y::gV z::.slice p_q ([rg x,rg y,rg z]).length c_q::.bool false::.bool false::gV x::.bool true::.bool false::.bool false::us 194)))) (by kernel_rfl) ?_
 refine wpT_val rfl (ex_move rfl) ?_
 refine wpList_as (fr (gV x::gV y::gV z::sq u1 0 4 (sq uu 0 25 (gV x::gV y::gV z::.slice p_q ([rg x,rg y,rg z]).length c_q::.bool false::.bool false::gV x::.bool true::.bool false::.bool false::.bool false::us 193)))) (by kernel_rfl) ?_
 refine wpT_valW (v:=gV y) (by kernel_rfl) (ex_load_row 30 _ rfl (by exact E1_1) B3 Tryz.underlying30 rfl (by kernel_rfl)) ?_
 refine wpList_as (fr (gV x::gV y::gV z::sq u1 0 4 (sq uu 0 25 (gV x::gV y::gV z::.slice p_q ([rg x,rg y,rg z]).length c_q::.bool false::.bool false::gV x::.bool true::.bool false::.bool false::.bool false::gV y::us 192)))) (by kernel_rfl) ?_
 refine wpT_callKW (V:=.bool true) (by kernel_rfl) (ex_call rfl rfl Tryz.func28 (by kernel_rfl) (by kernel_rfl) (by simp only [List.map_toArray,List.map_cons,List.map_nil]; rfl)) (reV (congrArg Value.bool p2) (hWhole (r:=(rg y))  )) fun w11 ow11=>?_
 replace B2:=(ow11.block b2 (lt_of B2)).trans B2
 replace B3:=(ow11.block b3 (lt_of B3)).trans B3
 replace B4:=(ow11.block b4 (lt_of B4)).trans B4
 replace B_q:=fun h=>(ow11.block _ (lt_of (B_q h))).trans (B_q h)
 replace bel:=bel.trans (ow11.mono bel.size)
 refine wpList_as (fr (gV x::gV y::gV z::sq u1 0 4 (sq uu 0 25 (gV x::gV y::gV z::.slice p_q ([rg x,rg y,rg z]).length c_q::.bool false::.bool false::gV x::.bool true::.bool false::.bool false::.bool false::gV y::.bool true::us 191)))) (by kernel_rfl) ?_
 refine wpT_valW (v:=.bool false) (by kernel_rfl) (by go_simp) ?_
 refine wpList_as (fr (gV x::gV y::gV z::sq u1 0 4 (sq uu 0 25 (gV x::gV y::gV z::.slice p_q ([rg x,rg y,rg z]).length c_q::.bool false::.bool false::gV x::.bool true::.bool false::.bool false::.bool false::gV y::.bool true::.bool false::us 190)))) (by kernel_rfl) ?_
 refine wpT_val (v:=.bool false) rfl (by go_simp) ?_
 refine wpList_as (fr (gV x::gV y::gV z::sq u1 0 4 (sq uu 0 25 (gV x::gV y::gV z::.slice p_q ([rg x,rg y,rg z]).length c_q::.bool false::.bool false::gV x::.bool true::.bool false::.bool false::.bool false::gV y::.bool true::.bool false::.bool false::us 189)))) (by kernel_rfl) ?_
 refine wpT_val rfl (ex_move rfl) ?_
 refine wpList_as (fr (gV x::gV y::gV z::sq u1 0 4 (sq uu 0 25 (gV x::gV y::gV z::.slice p_q ([rg x,rg y,rg z]).length c_q::.bool false::.bool false::gV x::.bool true::.bool false::.bool false::.bool false::gV y::.bool true::.bool false::.bool false::.bool false::us 188)))) (by kernel_rfl) ?_
 refine wpT_valW (v:=gV z) (by kernel_rfl) (ex_load_row 30 _ rfl (by exact E1_2) B4 Tryz.underlying30 rfl (by kernel_rfl)) ?_
 refine wpList_as (fr (gV x::gV y::gV z::sq u1 0 4 (sq uu 0 25 (gV x::gV y::gV z::.slice p_q ([rg x,rg y,rg z]).length c_q::.bool false::.bool false::gV x::.bool true::.bool false::.bool false::.bool false::gV y::.bool true::.bool false::.bool false::.bool false::gV z::us 187)))) (by kernel_rfl) ?_
 refine wpT_callKW (V:=.bool true) (by kernel_rfl) (ex_call rfl rfl Tryz.func28 (by kernel_rfl) (by kernel_rfl) (by simp only [List.map_toArray,List.map_cons,List.map_nil]; rfl)) (reV (congrArg Value.bool p3) (hWhole (r:=(rg z))  )) fun w12 ow12=>?_
 replace B2:=(ow12.block b2 (lt_of B2)).trans B2
 replace B3:=(ow12.block b3 (lt_of B3)).trans B3
 replace B4:=(ow12.block b4 (lt_of B4)).trans B4
 replace B_q:=fun h=>(ow12.block _ (lt_of (B_q h))).trans (B_q h)
 replace bel:=bel.trans (ow12.mono bel.size)
 refine wpList_as (fr (gV x::gV y::gV z::sq u1 0 4 (sq uu 0 25 (gV x::gV y::gV z::.slice p_q ([rg x,rg y,rg z]).length c_q::.bool false::.bool false::gV x::.bool true::.bool false::.bool false::.bool false::gV y::.bool true::.bool false::.bool false::.bool false::gV z::.bool true::us 186)))) (by kernel_rfl) ?_
 refine wpT_valW (v:=.bool false) (by kernel_rfl) (by go_simp) ?_
 refine wpList_as (fr (gV x::gV y::gV z::sq u1 0 4 (sq uu 0 25 (gV x::gV y::gV z::.slice p_q ([rg x,rg y,rg z]).length c_q::.bool false::.bool false::gV x::.bool true::.bool false::.bool false::.bool false::gV y::.bool true::.bool false::.bool false::.bool false::gV z::.bool true::.bool false::us 185)))) (by kernel_rfl) ?_
 refine wpT_val (v:=.bool false) rfl (by go_simp) ?_
 refine wpList_as (fr (gV x::gV y::gV z::sq u1 0 4 (sq uu 0 25 (gV x::gV y::gV z::.slice p_q ([rg x,rg y,rg z]).length c_q::.bool false::.bool false::gV x::.bool true::.bool false::.bool false::.bool false::gV y::.bool true::.bool false::.bool false::.bool false::gV z::.bool true::.bool false::.bool false::us 184)))) (by kernel_rfl) ?_
 refine wpList_nil ?_
 show _
 refine K6 _ _ ?_
 refine wp_cond_false rfl ?_
 refine wp_skip ?_
 refine K5 _ _ ?_
 refine gs 12 (Amb Z0 W) fun _ K13=>?_
 refine .lr rfl 3 E1_0 B2 ?_
 refine .lr rfl 4 E1_1 B3 ?_
 refine .cK rfl Tryz.func23 (fun H=>⟨_,ar2 (H.g 54 0) (H.g 55 1),iDiv _ _ (q:=q) (r:=r) (by first | exact p9 | assumption | exact len3_le)⟩) ?_
 refine .mv rfl 2 ?_
 refine .e rfl (V:=gV q) (fun H=>x_ex (H.g 53 3)) ?_
 refine .e rfl (V:=gV r) (fun H=>x_ex (H.g 53 3)) ?_
 refine .e rfl (V:=.int .i64 0) (fun H=>x_ex (H.g 53 3)) ?_
 refine .al rfl zG ?_
 refine .al rfl zG ?_
 refine .so rfl 7 (fun H=>⟨H.r 7 7,H.g 57 4⟩) ?_
 refine .so rfl 8 (fun H=>⟨H.r 8 8,H.g 58 5⟩) ?_
 refine .mv rfl 6 ?_
 refine .dk (fun u=>gV x::gV y::gV z::sq u1 0 4 (u 7::u 8::u 11::sq uu 0 22 (gV x::gV y::gV z::.slice p_q ([rg x,rg y,rg z]).length c_q::.bool false::.bool false::gV x::.bool true::.bool false::.bool false::.bool false::gV y::.bool true::.bool false::.bool false::.bool false::gV z::.bool true::.bool false::.bool false::U::u 3::sq u 0 3 (sq u 4 3 (us 176))))) K13 bel fun u3 w3 D bel=>?_
 obtain ⟨b14,E3_7,A14,B14⟩:=D.st 9
 obtain ⟨b15,E3_8,A15,B15⟩:=D.st 10
 have E3_11:=D.q 11
 replace B2:=D.k B2
 replace B3:=D.k B3
 replace B4:=D.k B4
 replace B_q:=fun h=>D.k (B_q h)
 clear D
 refine wp_seq_k fun _ K16=>?_
 refine gs 3 (Amb Z0 W) fun _ K17=>?_
 refine .lr rfl 4 E1_1 B3 ?_
 refine .cK rfl (V:=.bool false) Tryz.func37 (fun H=>⟨_,ar1 (H.g 60 0),reV (congrArg Value.bool p17) (iZero _)⟩) ?_
 refine .e rfl (V:=.bool true) (fun H=>x_not (H.g 61 1)) ?_
 refine .dk (fun u=>gV x::gV y::gV z::sq u1 0 4 (u3 7::u3 8::u3 11::sq uu 0 22 (gV x::gV y::gV z::.slice p_q ([rg x,rg y,rg z]).length c_q::.bool false::.bool false::gV x::.bool true::.bool false::.bool false::.bool false::gV y::.bool true::.bool false::.bool false::.bool false::gV z::.bool true::.bool false::.bool false::U::u3 3::sq u3 0 3 (sq u3 4 3 (sq u 0 3 (us 173)))))) K17 bel fun u4 w4 D bel=>?_
 have E4_2:=D.q 2
 replace B2:=D.k B2
 replace B3:=D.k B3
 replace B4:=D.k B4
 replace B14:=D.k B14
 replace B15:=D.k B15
 replace B_q:=fun h=>D.k (B_q h)
 clear D
 refine wp_cond_true (by exact E4_2) ?_
 refine gs 9 (Amb Z0 W) fun _ K18=>?_
 refine .lr rfl 7 E3_7 B14 ?_
 refine .lr rfl 4 E1_1 B3 ?_
 refine .cK rfl Tryz.func38 (fun H=>⟨_,ar2 (H.g 64 0) (H.g 65 1),iMul _ _ (by first | exact p9 | assumption | exact len3_le)⟩) ?_
 refine .mv rfl 2 ?_
 refine .e rfl (V:=gV (q.mul y)) (fun H=>x_ex (H.g 63 3)) ?_
 refine .e rfl (V:=.int .i64 0) (fun H=>x_ex (H.g 63 3)) ?_
 refine .al rfl zG ?_
 refine .so rfl 6 (fun H=>⟨H.r 10 6,H.g 67 4⟩) ?_
 refine .mv rfl 5 ?_
 refine .dk (fun u=>gV x::gV y::gV z::sq u1 0 4 (u3 7::u3 8::u3 11::u 6::u 8::sq uu 0 20 (gV x::gV y::gV z::.slice p_q ([rg x,rg y,rg z]).length c_q::.bool false::.bool false::gV x::.bool true::.bool false::.bool false::.bool false::gV y::.bool true::.bool false::.bool false::.bool false::gV z::.bool true::.bool false::.bool false::U::u3 3::sq u3 0 3 (sq u3 4 3 (sq u4 0 3 (u 3::sq u 0 3 (u 4::u 5::us 167))))))) K18 bel fun u5 w5 D bel=>?_
 obtain ⟨b19,E5_6,A19,B19⟩:=D.st 7
 have E5_8:=D.q 8
 replace B2:=D.k B2
 replace B3:=D.k B3
 replace B4:=D.k B4
 replace B15:=D.k B15
 replace B_q:=fun h=>D.k (B_q h)
 clear D
 refine gs 9 (Amb Z0 W) fun _ K20=>?_
 refine .lr rfl 10 E5_6 B19 ?_
 refine .lr rfl 8 E3_8 B15 ?_
 refine .cK rfl Tryz.func39 (fun H=>⟨_,ar2 (H.g 70 0) (H.g 71 1),iAdd _ _ (by first | exact p9 | assumption | exact len3_le)⟩) ?_
 refine .mv rfl 2 ?_
 refine .e rfl (V:=gV ((q.mul y).add r)) (fun H=>x_ex (H.g 69 3)) ?_
 refine .e rfl (V:=.int .i64 0) (fun H=>x_ex (H.g 69 3)) ?_
 refine .al rfl zG ?_
 refine .so rfl 6 (fun H=>⟨H.r 12 6,H.g 73 4⟩) ?_
 refine .mv rfl 5 ?_
 refine .dk (fun u=>gV x::gV y::gV z::sq u1 0 4 (u3 7::u3 8::u3 11::u5 6::u5 8::u 6::u 8::sq uu 0 18 (gV x::gV y::gV z::.slice p_q ([rg x,rg y,rg z]).length c_q::.bool false::.bool false::gV x::.bool true::.bool false::.bool false::.bool false::gV y::.bool true::.bool false::.bool false::.bool false::gV z::.bool true::.bool false::.bool false::U::u3 3::sq u3 0 3 (sq u3 4 3 (sq u4 0 3 (u5 3::sq u5 0 3 (u5 4::u5 5::u 3::sq u 0 3 (u 4::u 5::us 161)))))))) K20 bel fun u6 w6 D bel=>?_
 obtain ⟨b21,E6_6,A21,B21⟩:=D.st 7
 have E6_8:=D.q 8
 replace B2:=D.k B2
 replace B3:=D.k B3
 replace B4:=D.k B4
 replace B15:=D.k B15
 replace B_q:=fun h=>D.k (B_q h)
 clear D
 refine gd 11 (Amb Z0 W) fun _ K22=>?_
 refine .lr rfl 8 E3_8 B15 ?_
 refine .cK rfl Tryz.func41 (fun H=>⟨_,ar1 (H.g 76 0),iNorm _ (by first | exact p9 | assumption | exact len3_le)⟩) ?_
 refine .lr rfl 8 E3_8 B15 ?_
 refine .cK rfl Tryz.func41 (fun H=>⟨_,ar1 (H.g 78 2),iNorm _ (by first | exact p9 | assumption | exact len3_le)⟩) ?_
 refine .cK rfl Tryz.func40 (fun H=>⟨_,ar2 (H.g 77 1) (H.g 79 3),iFAdd _ _ (by first | exact p9 | assumption | exact len3_le)⟩) ?_
 refine .mv rfl 4 ?_
 refine .e rfl (V:=fV (r.norm + r.norm)) (fun H=>x_ex (H.g 75 5)) ?_
 refine .e rfl (V:=.int .i64 0) (fun H=>x_ex (H.g 75 5)) ?_
 refine .al rfl zF ?_
 refine .so rfl 8 (fun H=>⟨H.r 14 8,H.g 81 6⟩) ?_
 refine .mv rfl 7 ?_
 refine .dk (fun u=>gV x::gV y::gV z::sq u1 0 4 (u3 7::u3 8::u3 11::u5 6::u5 8::u6 6::u6 8::u 8::u 10::sq uu 0 16 (gV x::gV y::gV z::.slice p_q ([rg x,rg y,rg z]).length c_q::.bool false::.bool false::gV x::.bool true::.bool false::.bool false::.bool false::gV y::.bool true::.bool false::.bool false::.bool false::gV z::.bool true::.bool false::.bool false::U::u3 3::sq u3 0 3 (sq u3 4 3 (sq u4 0 3 (u5 3::sq u5 0 3 (u5 4::u5 5::u6 3::sq u6 0 3 (u6 4::u6 5::u 5::sq u 0 5 (u 6::u 7::us 153))))))))) K22 bel fun u7 w7 D bel=>?_
 obtain ⟨b23,E7_8,A23,B23⟩:=D.st 9
 have E7_10:=D.q 10
 replace B2:=D.k B2
 replace B3:=D.k B3
 replace B4:=D.k B4
 replace B21:=D.k B21
 replace B_q:=fun h=>D.k (B_q h)
 clear D
 refine gd 26 (Amb Z0 W) fun _ K24=>?_
 refine .mz rfl 9 E3_11 ?_
 refine .e rfl (V:=.bool false) (fun H=>x_cm (H.g 83 0) (H.c _) (bne_self_eq_false (show Int from 0))) ?_
 refine .mv rfl 1 ?_
 refine .mz rfl 11 E5_8 ?_ (hg:=gq 2 rfl)
 refine .e rfl (V:=.bool false) (fun H=>x_cm (H.g 86 3) (H.c _) (bne_self_eq_false (show Int from 0))) ?_ (hg:=gq 2 rfl)
 refine .e rfl (fun H=>x_pkF (H.g 85 2) (H.g 87 4)) ?_
 refine .mv rfl 5 ?_
 refine .mz rfl 13 E6_8 ?_ (hg:=gq 6 rfl)
 refine .e rfl (V:=.bool false) (fun H=>x_cm (H.g 90 7) (H.c _) (bne_self_eq_false (show Int from 0))) ?_ (hg:=gq 6 rfl)
 refine .e rfl (fun H=>x_pkF (H.g 89 6) (H.g 91 8)) ?_
 refine .mv rfl 9 ?_
 refine .mz rfl 15 E7_10 ?_ (hg:=gq 10 rfl)
 refine .e rfl (V:=.bool false) (fun H=>x_cm (H.g 94 11) (H.c _) (bne_self_eq_false (show Int from 0))) ?_ (hg:=gq 10 rfl)
 refine .e rfl (fun H=>x_pkF (H.g 93 10) (H.g 95 12)) ?_
 refine .mv rfl 13 ?_
 refine .lr rfl 12 E6_6 B21 ?_ (hg:=gq 14 rfl)
 refine .lr rfl 3 E1_0 B2 ?_ (hg:=gq 14 rfl)
 refine .e rfl (V:=.bool false) (fun H=>ex_neq_gauss (r:=rg ((q.mul y).add r)) (q:=rg x) _ _ rfl (H.g 98 15) (H.g 99 16) ((rg_dec ((q.mul y).add r) x).trans (decide_eq_true p22))) ?_ (hg:=gq 14 rfl)
 refine .e rfl (fun H=>x_pkF (H.g 97 14) (H.g 100 17)) ?_
 refine .mv rfl 18 ?_
 refine .lr rfl 14 E7_8 B23 ?_ (hg:=gq 19 rfl)
 refine .lr rfl 4 E1_1 B3 ?_ (hg:=gq 19 rfl)
 refine .cK rfl Tryz.func41 (fun H=>⟨_,ar1 (H.g 104 21),iNorm _ (by first | exact p9 | assumption | exact len3_le)⟩) ?_ (hg:=gq 19 rfl)
 refine .cK rfl Tryz.func42 (fun H=>⟨_,ar2 (H.g 103 20) (H.g 105 22),iUnder _ _ (by first | exact p9 | assumption | exact len3_le)⟩) ?_ (hg:=gq 19 rfl)
 refine .e rfl (V:=.bool false) (fun H=>x_not (H.g 106 23)) ?_ (hg:=gq 19 rfl)
 refine .e rfl (fun H=>x_pkF (H.g 102 19) (H.g 107 24)) ?_
 refine .dk (fun u=>gV x::gV y::gV z::sq u1 0 4 (u3 7::u3 8::u3 11::u5 6::u5 8::u6 6::u6 8::u7 8::u7 10::sq uu 0 16 (gV x::gV y::gV z::.slice p_q ([rg x,rg y,rg z]).length c_q::.bool false::.bool false::gV x::.bool true::.bool false::.bool false::.bool false::gV y::.bool true::.bool false::.bool false::.bool false::gV z::.bool true::.bool false::.bool false::U::u3 3::sq u3 0 3 (sq u3 4 3 (sq u4 0 3 (u5 3::sq u5 0 3 (u5 4::u5 5::u6 3::sq u6 0 3 (u6 4::u6 5::u7 5::sq u7 0 5 (u7 6::u7 7::sq u 0 26 (us 127)))))))))) K24 bel fun u8 w8 D bel=>?_
 have E8_25:=D.q 25
 replace B2:=D.k B2
 replace B3:=D.k B3
 replace B4:=D.k B4
 replace B_q:=fun h=>D.k (B_q h)
 clear D
 refine wp_cond_false (by exact E8_25) ?_
 refine wp_skip ?_
 refine K16 _ _ ?_
 refine gs 15 (Amb Z0 W) fun _ K25=>?_
 refine .lr rfl 3 E1_0 B2 ?_
 refine .lr rfl 4 E1_1 B3 ?_
 refine .cK rfl Tryz.func25 (fun H=>⟨_,ar2 (H.g 110 0) (H.g 111 1),iComb _ _ (d:=d) (u:=u) (v:=v) (by first | exact p9 | assumption | exact len3_le)⟩) ?_
 refine .mv rfl 2 ?_
 refine .e rfl (V:=gV d) (fun H=>x_ex (H.g 109 3)) ?_
 refine .e rfl (V:=gV u) (fun H=>x_ex (H.g 109 3)) ?_
 refine .e rfl (V:=gV v) (fun H=>x_ex (H.g 109 3)) ?_
 refine .e rfl (V:=.int .i64 0) (fun H=>x_ex (H.g 109 3)) ?_
 refine .al rfl zG ?_
 refine .al rfl zG ?_
 refine .al rfl zG ?_
 refine .so rfl 8 (fun H=>⟨H.r 16 8,H.g 113 4⟩) ?_
 refine .so rfl 9 (fun H=>⟨H.r 17 9,H.g 114 5⟩) ?_
 refine .so rfl 10 (fun H=>⟨H.r 18 10,H.g 115 6⟩) ?_
 refine .mv rfl 7 ?_
 refine .dk (fun u=>gV x::gV y::gV z::sq u1 0 4 (u3 7::u3 8::u3 11::u5 6::u5 8::u6 6::u6 8::u7 8::u7 10::sq u 8 3 (u 14::sq uu 0 12 (gV x::gV y::gV z::.slice p_q ([rg x,rg y,rg z]).length c_q::.bool false::.bool false::gV x::.bool true::.bool false::.bool false::.bool false::gV y::.bool true::.bool false::.bool false::.bool false::gV z::.bool true::.bool false::.bool false::U::u3 3::sq u3 0 3 (sq u3 4 3 (sq u4 0 3 (u5 3::sq u5 0 3 (u5 4::u5 5::u6 3::sq u6 0 3 (u6 4::u6 5::u7 5::sq u7 0 5 (u7 6::u7 7::sq u8 0 26 (u 3::sq u 0 3 (sq u 4 4 (us 119))))))))))))) K25 bel fun u9 w9 D bel=>?_
 obtain ⟨b26,E9_8,A26,B26⟩:=D.st 11
 obtain ⟨b27,E9_9,A27,B27⟩:=D.st 12
 obtain ⟨b28,E9_10,A28,B28⟩:=D.st 13
 have E9_14:=D.q 14
 replace B2:=D.k B2
 replace B3:=D.k B3
 replace B4:=D.k B4
 replace B_q:=fun h=>D.k (B_q h)
 clear D
 refine gs 9 (Amb Z0 W) fun _ K29=>?_
 refine .lr rfl 17 E9_9 B27 ?_
 refine .lr rfl 3 E1_0 B2 ?_
 refine .cK rfl Tryz.func38 (fun H=>⟨_,ar2 (H.g 118 0) (H.g 119 1),iMul _ _ (by first | exact p9 | assumption | exact len3_le)⟩) ?_
 refine .mv rfl 2 ?_
 refine .e rfl (V:=gV (u.mul x)) (fun H=>x_ex (H.g 117 3)) ?_
 refine .e rfl (V:=.int .i64 0) (fun H=>x_ex (H.g 117 3)) ?_
 refine .al rfl zG ?_
 refine .so rfl 6 (fun H=>⟨H.r 20 6,H.g 121 4⟩) ?_
 refine .mv rfl 5 ?_
 refine .dk (fun u=>gV x::gV y::gV z::sq u1 0 4 (u3 7::u3 8::u3 11::u5 6::u5 8::u6 6::u6 8::u7 8::u7 10::sq u9 8 3 (u9 14::u 6::u 8::sq uu 0 10 (gV x::gV y::gV z::.slice p_q ([rg x,rg y,rg z]).length c_q::.bool false::.bool false::gV x::.bool true::.bool false::.bool false::.bool false::gV y::.bool true::.bool false::.bool false::.bool false::gV z::.bool true::.bool false::.bool false::U::u3 3::sq u3 0 3 (sq u3 4 3 (sq u4 0 3 (u5 3::sq u5 0 3 (u5 4::u5 5::u6 3::sq u6 0 3 (u6 4::u6 5::u7 5::sq u7 0 5 (u7 6::u7 7::sq u8 0 26 (u9 3::sq u9 0 3 (sq u9 4 4 (u 3::sq u 0 3 (u 4::u 5::us 113)))))))))))))) K29 bel fun u10 w10 D bel=>?_
 obtain ⟨b30,E10_6,A30,B30⟩:=D.st 7
 replace B2:=D.k B2
 replace B3:=D.k B3
 replace B4:=D.k B4
 replace B26:=D.k B26
 replace B28:=D.k B28
 replace B_q:=fun h=>D.k (B_q h)
 clear D
 refine gs 9 (Amb Z0 W) fun _ K31=>?_
 refine .lr rfl 18 E9_10 B28 ?_
 refine .lr rfl 4 E1_1 B3 ?_
 refine .cK rfl Tryz.func38 (fun H=>⟨_,ar2 (H.g 124 0) (H.g 125 1),iMul _ _ (by first | exact p9 | assumption | exact len3_le)⟩) ?_
 refine .mv rfl 2 ?_
 refine .e rfl (V:=gV (v.mul y)) (fun H=>x_ex (H.g 123 3)) ?_
 refine .e rfl (V:=.int .i64 0) (fun H=>x_ex (H.g 123 3)) ?_
 refine .al rfl zG ?_
 refine .so rfl 6 (fun H=>⟨H.r 22 6,H.g 127 4⟩) ?_
 refine .mv rfl 5 ?_
 refine .dk (fun u=>gV x::gV y::gV z::sq u1 0 4 (u3 7::u3 8::u3 11::u5 6::u5 8::u6 6::u6 8::u7 8::u7 10::sq u9 8 3 (u9 14::u10 6::u10 8::u 6::u 8::sq uu 0 8 (gV x::gV y::gV z::.slice p_q ([rg x,rg y,rg z]).length c_q::.bool false::.bool false::gV x::.bool true::.bool false::.bool false::.bool false::gV y::.bool true::.bool false::.bool false::.bool false::gV z::.bool true::.bool false::.bool false::U::u3 3::sq u3 0 3 (sq u3 4 3 (sq u4 0 3 (u5 3::sq u5 0 3 (u5 4::u5 5::u6 3::sq u6 0 3 (u6 4::u6 5::u7 5::sq u7 0 5 (u7 6::u7 7::sq u8 0 26 (u9 3::sq u9 0 3 (sq u9 4 4 (u10 3::sq u10 0 3 (u10 4::u10 5::u 3::sq u 0 3 (u 4::u 5::us 107))))))))))))))) K31 bel fun u11 w11 D bel=>?_
 obtain ⟨b32,E11_6,A32,B32⟩:=D.st 7
 replace B2:=D.k B2
 replace B3:=D.k B3
 replace B4:=D.k B4
 replace B26:=D.k B26
 replace B30:=D.k B30
 replace B_q:=fun h=>D.k (B_q h)
 clear D
 refine gs 9 (Amb Z0 W) fun _ K33=>?_
 refine .lr rfl 20 E10_6 B30 ?_
 refine .lr rfl 22 E11_6 B32 ?_
 refine .cK rfl Tryz.func39 (fun H=>⟨_,ar2 (H.g 130 0) (H.g 131 1),iAdd _ _ (by first | exact p9 | assumption | exact len3_le)⟩) ?_
 refine .mv rfl 2 ?_
 refine .e rfl (V:=gV ((u.mul x).add (v.mul y))) (fun H=>x_ex (H.g 129 3)) ?_
 refine .e rfl (V:=.int .i64 0) (fun H=>x_ex (H.g 129 3)) ?_
 refine .al rfl zG ?_
 refine .so rfl 6 (fun H=>⟨H.r 24 6,H.g 133 4⟩) ?_
 refine .mv rfl 5 ?_
 refine .dk (fun u=>gV x::gV y::gV z::sq u1 0 4 (u3 7::u3 8::u3 11::u5 6::u5 8::u6 6::u6 8::u7 8::u7 10::sq u9 8 3 (u9 14::u10 6::u10 8::u11 6::u11 8::u 6::u 8::U::U::U::U::U::U::gV x::gV y::gV z::.slice p_q ([rg x,rg y,rg z]).length c_q::.bool false::.bool false::gV x::.bool true::.bool false::.bool false::.bool false::gV y::.bool true::.bool false::.bool false::.bool false::gV z::.bool true::.bool false::.bool false::U::u3 3::sq u3 0 3 (sq u3 4 3 (sq u4 0 3 (u5 3::sq u5 0 3 (u5 4::u5 5::u6 3::sq u6 0 3 (u6 4::u6 5::u7 5::sq u7 0 5 (u7 6::u7 7::sq u8 0 26 (u9 3::sq u9 0 3 (sq u9 4 4 (u10 3::sq u10 0 3 (u10 4::u10 5::u11 3::sq u11 0 3 (u11 4::u11 5::u 3::sq u 0 3 (u 4::u 5::us 101))))))))))))))) K33 bel fun u12 w12 D bel=>?_
 obtain ⟨b34,E12_6,A34,B34⟩:=D.st 7
 have E12_8:=D.q 8
 replace B2:=D.k B2
 replace B3:=D.k B3
 replace B4:=D.k B4
 replace B26:=D.k B26
 replace B_q:=fun h=>D.k (B_q h)
 clear D
 refine gs 9 (Amb Z0 W) fun _ K35=>?_
 refine .lr rfl 4 E1_1 B3 ?_
 refine .lr rfl 3 E1_0 B2 ?_
 refine .cK rfl Tryz.func24 (fun H=>⟨_,ar2 (H.g 136 0) (H.g 137 1),iGcd _ _ (d:=d) (by first | exact p9 | assumption | exact len3_le)⟩) ?_
 refine .mv rfl 2 ?_
 refine .e rfl (V:=gV d) (fun H=>x_ex (H.g 135 3)) ?_
 refine .e rfl (V:=.int .i64 0) (fun H=>x_ex (H.g 135 3)) ?_
 refine .al rfl zG ?_
 refine .so rfl 6 (fun H=>⟨H.r 26 6,H.g 139 4⟩) ?_
 refine .mv rfl 5 ?_
 refine .dk (fun u=>gV x::gV y::gV z::sq u1 0 4 (u3 7::u3 8::u3 11::u5 6::u5 8::u6 6::u6 8::u7 8::u7 10::sq u9 8 3 (u9 14::u10 6::u10 8::u11 6::u11 8::u12 6::u12 8::u 6::u 8::U::U::U::U::gV x::gV y::gV z::.slice p_q ([rg x,rg y,rg z]).length c_q::.bool false::.bool false::gV x::.bool true::.bool false::.bool false::.bool false::gV y::.bool true::.bool false::.bool false::.bool false::gV z::.bool true::.bool false::.bool false::U::u3 3::sq u3 0 3 (sq u3 4 3 (sq u4 0 3 (u5 3::sq u5 0 3 (u5 4::u5 5::u6 3::sq u6 0 3 (u6 4::u6 5::u7 5::sq u7 0 5 (u7 6::u7 7::sq u8 0 26 (u9 3::sq u9 0 3 (sq u9 4 4 (u10 3::sq u10 0 3 (u10 4::u10 5::u11 3::sq u11 0 3 (u11 4::u11 5::u12 3::sq u12 0 3 (u12 4::u12 5::u 3::sq u 0 3 (u 4::u 5::us 95)))))))))))))))) K35 bel fun u13 w13 D bel=>?_
 obtain ⟨b36,E13_6,A36,B36⟩:=D.st 7
 have E13_8:=D.q 8
 replace B2:=D.k B2
 replace B3:=D.k B3
 replace B4:=D.k B4
 replace B26:=D.k B26
 replace B34:=D.k B34
 replace B_q:=fun h=>D.k (B_q h)
 clear D
 refine gs 8 (Amb Z0 W) fun _ K37=>?_
 refine .lr rfl 3 E1_0 B2 ?_
 refine .cK rfl Tryz.func43 (fun H=>⟨_,ar1 (H.g 142 0),iTurn _ (by first | exact p9 | assumption | exact len3_le)⟩) ?_
 refine .mv rfl 1 ?_
 refine .e rfl (V:=gV (x.mul (Cx.ofInt (0:Int) (1:Int)))) (fun H=>x_ex (H.g 141 2)) ?_
 refine .e rfl (V:=.int .i64 0) (fun H=>x_ex (H.g 141 2)) ?_
 refine .al rfl zG ?_
 refine .so rfl 5 (fun H=>⟨H.r 28 5,H.g 144 3⟩) ?_
 refine .mv rfl 4 ?_
 refine .dk (fun u=>gV x::gV y::gV z::sq u1 0 4 (u3 7::u3 8::u3 11::u5 6::u5 8::u6 6::u6 8::u7 8::u7 10::sq u9 8 3 (u9 14::u10 6::u10 8::u11 6::u11 8::u12 6::u12 8::u13 6::u13 8::u 5::u 7::U::U::gV x::gV y::gV z::.slice p_q ([rg x,rg y,rg z]).length c_q::.bool false::.bool false::gV x::.bool true::.bool false::.bool false::.bool false::gV y::.bool true::.bool false::.bool false::.bool false::gV z::.bool true::.bool false::.bool false::U::u3 3::sq u3 0 3 (sq u3 4 3 (sq u4 0 3 (u5 3::sq u5 0 3 (u5 4::u5 5::u6 3::sq u6 0 3 (u6 4::u6 5::u7 5::sq u7 0 5 (u7 6::u7 7::sq u8 0 26 (u9 3::sq u9 0 3 (sq u9 4 4 (u10 3::sq u10 0 3 (u10 4::u10 5::u11 3::sq u11 0 3 (u11 4::u11 5::u12 3::sq u12 0 3 (u12 4::u12 5::u13 3::sq u13 0 3 (u13 4::u13 5::u 2::u 0::u 1::u 3::u 4::us 90)))))))))))))))) K37 bel fun u14 w14 D bel=>?_
 obtain ⟨b38,E14_5,A38,B38⟩:=D.st 6
 replace B2:=D.k B2
 replace B3:=D.k B3
 replace B4:=D.k B4
 replace B26:=D.k B26
 replace B34:=D.k B34
 replace B36:=D.k B36
 replace B_q:=fun h=>D.k (B_q h)
 clear D
 refine gs 9 (Amb Z0 W) fun _ K39=>?_
 refine .lr rfl 28 E14_5 B38 ?_
 refine .lr rfl 4 E1_1 B3 ?_
 refine .cK rfl Tryz.func24 (fun H=>⟨_,ar2 (H.g 147 0) (H.g 148 1),iGcd _ _ (d:=d) (by first | exact p9 | assumption | exact len3_le)⟩) ?_
 refine .mv rfl 2 ?_
 refine .e rfl (V:=gV d) (fun H=>x_ex (H.g 146 3)) ?_
 refine .e rfl (V:=.int .i64 0) (fun H=>x_ex (H.g 146 3)) ?_
 refine .al rfl zG ?_
 refine .so rfl 6 (fun H=>⟨H.r 30 6,H.g 150 4⟩) ?_
 refine .mv rfl 5 ?_
 refine .dk (fun u=>gV x::gV y::gV z::sq u1 0 4 (u3 7::u3 8::u3 11::u5 6::u5 8::u6 6::u6 8::u7 8::u7 10::sq u9 8 3 (u9 14::u10 6::u10 8::u11 6::u11 8::u12 6::u12 8::u13 6::u13 8::u14 5::u14 7::u 6::u 8::gV x::gV y::gV z::.slice p_q ([rg x,rg y,rg z]).length c_q::.bool false::.bool false::gV x::.bool true::.bool false::.bool false::.bool false::gV y::.bool true::.bool false::.bool false::.bool false::gV z::.bool true::.bool false::.bool false::U::u3 3::sq u3 0 3 (sq u3 4 3 (sq u4 0 3 (u5 3::sq u5 0 3 (u5 4::u5 5::u6 3::sq u6 0 3 (u6 4::u6 5::u7 5::sq u7 0 5 (u7 6::u7 7::sq u8 0 26 (u9 3::sq u9 0 3 (sq u9 4 4 (u10 3::sq u10 0 3 (u10 4::u10 5::u11 3::sq u11 0 3 (u11 4::u11 5::u12 3::sq u12 0 3 (u12 4::u12 5::u13 3::sq u13 0 3 (u13 4::u13 5::u14 2::u14 0::u14 1::u14 3::u14 4::u 3::sq u 0 3 (u 4::u 5::us 84))))))))))))))))) K39 bel fun u15 w15 D bel=>?_
 obtain ⟨b40,E15_6,A40,B40⟩:=D.st 7
 have E15_8:=D.q 8
 replace B2:=D.k B2
 replace B3:=D.k B3
 replace B4:=D.k B4
 replace B26:=D.k B26
 replace B34:=D.k B34
 replace B36:=D.k B36
 replace B_q:=fun h=>D.k (B_q h)
 clear D
 refine wp_seq_k fun _ K41=>?_
 refine gs 29 (Amb Z0 W) fun _ K42=>?_
 refine .mz rfl 19 E9_14 ?_
 refine .e rfl (V:=.bool false) (fun H=>x_cm (H.g 152 0) (H.c _) (bne_self_eq_false (show Int from 0))) ?_
 refine .mv rfl 1 ?_
 refine .mz rfl 25 E12_8 ?_ (hg:=gq 2 rfl)
 refine .e rfl (V:=.bool false) (fun H=>x_cm (H.g 155 3) (H.c _) (bne_self_eq_false (show Int from 0))) ?_ (hg:=gq 2 rfl)
 refine .e rfl (fun H=>x_pkF (H.g 154 2) (H.g 156 4)) ?_
 refine .mv rfl 5 ?_
 refine .lr rfl 24 E12_6 B34 ?_ (hg:=gq 6 rfl)
 refine .lr rfl 16 E9_8 B26 ?_ (hg:=gq 6 rfl)
 refine .e rfl (V:=.bool false) (fun H=>ex_neq_gauss (r:=rg ((u.mul x).add (v.mul y))) (q:=rg d) _ _ rfl (H.g 159 7) (H.g 160 8) ((rg_dec ((u.mul x).add (v.mul y)) d).trans (decide_eq_true p8))) ?_ (hg:=gq 6 rfl)
 refine .e rfl (fun H=>x_pkF (H.g 158 6) (H.g 161 9)) ?_
 refine .mv rfl 10 ?_
 refine .mz rfl 27 E13_8 ?_ (hg:=gq 11 rfl)
 refine .e rfl (V:=.bool false) (fun H=>x_cm (H.g 164 12) (H.c _) (bne_self_eq_false (show Int from 0))) ?_ (hg:=gq 11 rfl)
 refine .e rfl (fun H=>x_pkF (H.g 163 11) (H.g 165 13)) ?_
 refine .mv rfl 14 ?_
 refine .lr rfl 26 E13_6 B36 ?_ (hg:=gq 15 rfl)
 refine .lr rfl 16 E9_8 B26 ?_ (hg:=gq 15 rfl)
 refine .e rfl (V:=.bool false) (fun H=>ex_neq_gauss (r:=rg d) (q:=rg d) _ _ rfl (H.g 168 16) (H.g 169 17) ((rg_dec d d).trans (decide_eq_true rfl))) ?_ (hg:=gq 15 rfl)
 refine .e rfl (fun H=>x_pkF (H.g 167 15) (H.g 170 18)) ?_
 refine .mv rfl 19 ?_
 refine .mz rfl 31 E15_8 ?_ (hg:=gq 20 rfl)
 refine .e rfl (V:=.bool false) (fun H=>x_cm (H.g 173 21) (H.c _) (bne_self_eq_false (show Int from 0))) ?_ (hg:=gq 20 rfl)
 refine .e rfl (fun H=>x_pkF (H.g 172 20) (H.g 174 22)) ?_
 refine .mv rfl 23 ?_
 refine .lr rfl 30 E15_6 B40 ?_ (hg:=gq 24 rfl)
 refine .lr rfl 16 E9_8 B26 ?_ (hg:=gq 24 rfl)
 refine .e rfl (V:=.bool false) (fun H=>ex_neq_gauss (r:=rg d) (q:=rg d) _ _ rfl (H.g 177 25) (H.g 178 26) ((rg_dec d d).trans (decide_eq_true rfl))) ?_ (hg:=gq 24 rfl)
 refine .e rfl (fun H=>x_pkF (H.g 176 24) (H.g 179 27)) ?_
 refine .dk (fun u=>gV x::gV y::gV z::sq u1 0 4 (u3 7::u3 8::u3 11::u5 6::u5 8::u6 6::u6 8::u7 8::u7 10::sq u9 8 3 (u9 14::u10 6::u10 8::u11 6::u11 8::u12 6::u12 8::u13 6::u13 8::u14 5::u14 7::u15 6::u15 8::gV x::gV y::gV z::.slice p_q ([rg x,rg y,rg z]).length c_q::.bool false::.bool false::gV x::.bool true::.bool false::.bool false::.bool false::gV y::.bool true::.bool false::.bool false::.bool false::gV z::.bool true::.bool false::.bool false::U::u3 3::sq u3 0 3 (sq u3 4 3 (sq u4 0 3 (u5 3::sq u5 0 3 (u5 4::u5 5::u6 3::sq u6 0 3 (u6 4::u6 5::u7 5::sq u7 0 5 (u7 6::u7 7::sq u8 0 26 (u9 3::sq u9 0 3 (sq u9 4 4 (u10 3::sq u10 0 3 (u10 4::u10 5::u11 3::sq u11 0 3 (u11 4::u11 5::u12 3::sq u12 0 3 (u12 4::u12 5::u13 3::sq u13 0 3 (u13 4::u13 5::u14 2::u14 0::u14 1::u14 3::u14 4::u15 3::sq u15 0 3 (u15 4::u15 5::sq u 0 29 (us 55)))))))))))))))))) K42 bel fun u16 w16 D bel=>?_
 have E16_28:=D.q 28
 replace B2:=D.k B2
 replace B3:=D.k B3
 replace B4:=D.k B4
 replace B26:=D.k B26
 replace B_q:=fun h=>D.k (B_q h)
 clear D
 refine wp_cond_false (by exact E16_28) ?_
 refine wp_skip ?_
 refine K41 _ _ ?_
 refine wp_seq_k fun _ K43=>?_
 refine gs 2 (Amb Z0 W) fun _ K44=>?_
 refine .lr rfl 16 E9_8 B26 ?_
 refine .cK rfl (V:=.bool false) Tryz.func37 (fun H=>⟨_,ar1 (H.g 181 0),reV (congrArg Value.bool p18) (iZero _)⟩) ?_
 refine .dk (fun u=>gV x::gV y::gV z::sq u1 0 4 (u3 7::u3 8::u3 11::u5 6::u5 8::u6 6::u6 8::u7 8::u7 10::sq u9 8 3 (u9 14::u10 6::u10 8::u11 6::u11 8::u12 6::u12 8::u13 6::u13 8::u14 5::u14 7::u15 6::u15 8::gV x::gV y::gV z::.slice p_q ([rg x,rg y,rg z]).length c_q::.bool false::.bool false::gV x::.bool true::.bool false::.bool false::.bool false::gV y::.bool true::.bool false::.bool false::.bool false::gV z::.bool true::.bool false::.bool false::U::u3 3::sq u3 0 3 (sq u3 4 3 (sq u4 0 3 (u5 3::sq u5 0 3 (u5 4::u5 5::u6 3::sq u6 0 3 (u6 4::u6 5::u7 5::sq u7 0 5 (u7 6::u7 7::sq u8 0 26 (u9 3::sq u9 0 3 (sq u9 4 4 (u10 3::sq u10 0 3 (u10 4::u10 5::u11 3::sq u11 0 3 (u11 4::u11 5::u12 3::sq u12 0 3 (u12 4::u12 5::u13 3::sq u13 0 3 (u13 4::u13 5::u14 2::u14 0::u14 1::u14 3::u14 4::u15 3::sq u15 0 3 (u15 4::u15 5::sq u16 0 29 (u 0::u 1::us 53)))))))))))))))))) K44 bel fun u17 w17 D bel=>?_
 have E17_1:=D.q 1
 replace B2:=D.k B2
 replace B3:=D.k B3
 replace B4:=D.k B4
 replace B26:=D.k B26
 replace B_q:=fun h=>D.k (B_q h)
 clear D
 refine wp_cond_false (by exact E17_1) ?_
 refine wp_skip ?_
 refine K43 _ _ ?_
 refine wp_seq_k fun _ K45=>?_
 rcases Bool.eq_false_or_eq_true (z.zero) with c47 | c47
 ·
  refine gs 31 (Amb Z0 W) fun _ K46=>?_
  refine .lr rfl 16 E9_8 B26 ?_
  refine .lr rfl 3 E1_0 B2 ?_
  refine .cK rfl (V:=.bool true) Tryz.func44 (fun H=>⟨_,ar2 (H.g 192 0) (H.g 193 1),reV (congrArg Value.bool e3) (iDvd _ _ (by first | exact p9 | assumption | exact len3_le))⟩) ?_
  refine .e rfl (V:=.bool false) (fun H=>x_not (H.g 194 2)) ?_
  refine .mv rfl 3 ?_
  refine .lr rfl 16 E9_8 B26 ?_ (hg:=gq 4 rfl)
  refine .lr rfl 4 E1_1 B3 ?_ (hg:=gq 4 rfl)
  refine .cK rfl (V:=.bool true) Tryz.func44 (fun H=>⟨_,ar2 (H.g 197 5) (H.g 198 6),reV (congrArg Value.bool e4) (iDvd _ _ (by first | exact p9 | assumption | exact len3_le))⟩) ?_ (hg:=gq 4 rfl)
  refine .e rfl (V:=.bool false) (fun H=>x_not (H.g 199 7)) ?_ (hg:=gq 4 rfl)
  refine .e rfl (fun H=>x_pkF (H.g 196 4) (H.g 200 8)) ?_
  refine .mv rfl 9 ?_
  refine .lr rfl 5 E1_2 B4 ?_ (hg:=gq 10 rfl)
  refine .cK rfl (V:=.bool true) Tryz.func37 (fun H=>⟨_,ar1 (H.g 203 11),reV (congrArg Value.bool c47) (iZero _)⟩) ?_ (hg:=gq 10 rfl)
  refine .e rfl (V:=.bool false) (fun H=>x_not (H.g 204 12)) ?_ (hg:=gq 10 rfl)
  refine .mv rfl 13 ?_ (hg:=gq 10 rfl)
  refine .sk rfl 14 ?_
  refine .sk rfl 14 ?_
  refine .sk rfl 14 ?_
  refine .e rfl (fun H=>x_pkF (H.g 206 14) (H.c _)) ?_ (hg:=gq 10 rfl)
  refine .mv rfl 18 ?_ (hg:=gq 10 rfl)
  refine .sk rfl 19 ?_
  refine .sk rfl 19 ?_
  refine .sk rfl 19 ?_
  refine .e rfl (fun H=>x_pkF (H.g 211 19) (H.c _)) ?_ (hg:=gq 10 rfl)
  refine .mv rfl 23 ?_ (hg:=gq 10 rfl)
  refine .sk rfl 24 ?_
  refine .sk rfl 24 ?_
  refine .sk rfl 24 ?_
  refine .sk rfl 24 ?_
  refine .e rfl (fun H=>x_pkF (H.g 216 24) (H.c _)) ?_ (hg:=gq 10 rfl)
  refine .e rfl (fun H=>x_pkF (H.g 202 10) (H.g 221 29)) ?_
  refine .dk (fun u=>gV x::gV y::gV z::sq u1 0 4 (u3 7::u3 8::u3 11::u5 6::u5 8::u6 6::u6 8::u7 8::u7 10::sq u9 8 3 (u9 14::u10 6::u10 8::u11 6::u11 8::u12 6::u12 8::u13 6::u13 8::u14 5::u14 7::u15 6::u15 8::gV x::gV y::gV z::.slice p_q ([rg x,rg y,rg z]).length c_q::.bool false::.bool false::gV x::.bool true::.bool false::.bool false::.bool false::gV y::.bool true::.bool false::.bool false::.bool false::gV z::.bool true::.bool false::.bool false::U::u3 3::sq u3 0 3 (sq u3 4 3 (sq u4 0 3 (u5 3::sq u5 0 3 (u5 4::u5 5::u6 3::sq u6 0 3 (u6 4::u6 5::u7 5::sq u7 0 5 (u7 6::u7 7::sq u8 0 26 (u9 3::sq u9 0 3 (sq u9 4 4 (u10 3::sq u10 0 3 (u10 4::u10 5::u11 3::sq u11 0 3 (u11 4::u11 5::u12 3::sq u12 0 3 (u12 4::u12 5::u13 3::sq u13 0 3 (u13 4::u13 5::u14 2::u14 0::u14 1::u14 3::u14 4::u15 3::sq u15 0 3 (u15 4::u15 5::sq u16 0 29 (u17 0::u17 1::sq uu 0 9 (sq u 0 31 (us 13)))))))))))))))))))) K46 bel fun u18 w18 D bel=>?_
  have E18_30:=D.q 30
  replace B26:=D.k B26
  replace B_q:=fun h=>D.k (B_q h)
  clear D
  refine wp_cond_false (by exact E18_30) ?_
  refine wp_skip ?_
  refine K45 _ _ ?_
  refine gs 14 (Amb Z0 W) fun _ K48=>?_
  refine .fz rfl 16 0 E9_8 ?_
  refine .lp rfl 0 (fC d.re) B26 ?_
  refine .cK rfl Tryz.func45 (fun H=>⟨_,ar1 (H.g 224 1),frSign _ (by first | exact p9 | assumption | exact len3_le)⟩) ?_
  refine .e rfl (V:=.bool true) (fun H=>x_cm (H.g 225 2) (H.c _) (decide_eq_true e7)) ?_
  refine .mv rfl 3 ?_
  refine .fz rfl 16 4 E9_8 ?_ (hg:=gq 4 rfl)
  refine .lp rfl 5 (fC d.im) B26 ?_ (hg:=gq 4 rfl)
  refine .cK rfl Tryz.func45 (fun H=>⟨_,ar1 (H.g 229 6),frSign _ (by first | exact p9 | assumption | exact len3_le)⟩) ?_ (hg:=gq 4 rfl)
  refine .e rfl (V:=.bool true) (fun H=>x_cm (H.g 230 7) (H.c _) (decide_eq_true e8)) ?_ (hg:=gq 4 rfl)
  refine .e rfl (fun H=>x_pkT (H.g 227 4) (H.g 231 8)) ?_
  refine .mv rfl 9 ?_
  refine .cK rfl Tryz.func9 (fun H=>⟨_,ar0,lKnown⟩) ?_ (hg:=gq 10 rfl)
  refine .e rfl (fun H=>x_pkT (H.g 233 10) (H.g 234 11)) ?_
  refine .mv rfl 12 ?_
  refine .dk (fun u=>gV x::gV y::gV z::sq u1 0 3 (u 13::u3 7::u3 8::u3 11::u5 6::u5 8::u6 6::u6 8::u7 8::u7 10::sq u9 8 3 (u9 14::u10 6::u10 8::u11 6::u11 8::u12 6::u12 8::u13 6::u13 8::u14 5::u14 7::u15 6::u15 8::gV x::gV y::gV z::.slice p_q ([rg x,rg y,rg z]).length c_q::.bool false::.bool false::gV x::.bool true::.bool false::.bool false::.bool false::gV y::.bool true::.bool false::.bool false::.bool false::gV z::.bool true::.bool false::.bool false::U::u3 3::sq u3 0 3 (sq u3 4 3 (sq u4 0 3 (u5 3::sq u5 0 3 (u5 4::u5 5::u6 3::sq u6 0 3 (u6 4::u6 5::u7 5::sq u7 0 5 (u7 6::u7 7::sq u8 0 26 (u9 3::sq u9 0 3 (sq u9 4 4 (u10 3::sq u10 0 3 (u10 4::u10 5::u11 3::sq u11 0 3 (u11 4::u11 5::u12 3::sq u12 0 3 (u12 4::u12 5::u13 3::sq u13 0 3 (u13 4::u13 5::u14 2::u14 0::u14 1::u14 3::u14 4::u15 3::sq u15 0 3 (u15 4::u15 5::sq u16 0 29 (u17 0::u17 1::sq uu 0 9 (sq u18 0 31 (sq u 0 13 [])))))))))))))))))))) K48 bel fun u19 w19 D bel=>?_
  have E19_13:=D.q 13
  replace B_q:=fun h=>D.k (B_q h)
  clear D
  exact wp_ret (rt rfl E19_13 rfl bel)
 ·
  obtain ⟨e9,e10,e11⟩:=p15 c47
  rcases Bool.eq_false_or_eq_true (dvB z x) with c49 | c49
  ·
   rcases Bool.eq_false_or_eq_true (dvB z y) with c50 | c50
   ·
    refine gs 31 (Amb Z0 W) fun _ K46=>?_
    refine .lr rfl 16 E9_8 B26 ?_
    refine .lr rfl 3 E1_0 B2 ?_
    refine .cK rfl (V:=.bool true) Tryz.func44 (fun H=>⟨_,ar2 (H.g 192 0) (H.g 193 1),reV (congrArg Value.bool e3) (iDvd _ _ (by first | exact p9 | assumption | exact len3_le))⟩) ?_
    refine .e rfl (V:=.bool false) (fun H=>x_not (H.g 194 2)) ?_
    refine .mv rfl 3 ?_
    refine .lr rfl 16 E9_8 B26 ?_ (hg:=gq 4 rfl)
    refine .lr rfl 4 E1_1 B3 ?_ (hg:=gq 4 rfl)
    refine .cK rfl (V:=.bool true) Tryz.func44 (fun H=>⟨_,ar2 (H.g 197 5) (H.g 198 6),reV (congrArg Value.bool e4) (iDvd _ _ (by first | exact p9 | assumption | exact len3_le))⟩) ?_ (hg:=gq 4 rfl)
    refine .e rfl (V:=.bool false) (fun H=>x_not (H.g 199 7)) ?_ (hg:=gq 4 rfl)
    refine .e rfl (fun H=>x_pkF (H.g 196 4) (H.g 200 8)) ?_
    refine .mv rfl 9 ?_
    refine .lr rfl 5 E1_2 B4 ?_ (hg:=gq 10 rfl)
    refine .cK rfl (V:=.bool false) Tryz.func37 (fun H=>⟨_,ar1 (H.g 203 11),reV (congrArg Value.bool c47) (iZero _)⟩) ?_ (hg:=gq 10 rfl)
    refine .e rfl (V:=.bool true) (fun H=>x_not (H.g 204 12)) ?_ (hg:=gq 10 rfl)
    refine .mv rfl 13 ?_ (hg:=gq 10 rfl)
    refine .lr rfl 5 E1_2 B4 ?_ (hg:=gq 14 rfl)
    refine .lr rfl 3 E1_0 B2 ?_ (hg:=gq 14 rfl)
    refine .cK rfl (V:=.bool true) Tryz.func44 (fun H=>⟨_,ar2 (H.g 207 15) (H.g 208 16),reV (congrArg Value.bool c49) (iDvd _ _ (by first | exact p9 | assumption | exact len3_le))⟩) ?_ (hg:=gq 14 rfl)
    refine .e rfl (fun H=>x_pkT (H.g 206 14) (H.g 209 17)) ?_ (hg:=gq 10 rfl)
    refine .mv rfl 18 ?_ (hg:=gq 10 rfl)
    refine .lr rfl 5 E1_2 B4 ?_ (hg:=gq 19 rfl)
    refine .lr rfl 4 E1_1 B3 ?_ (hg:=gq 19 rfl)
    refine .cK rfl (V:=.bool true) Tryz.func44 (fun H=>⟨_,ar2 (H.g 212 20) (H.g 213 21),reV (congrArg Value.bool c50) (iDvd _ _ (by first | exact p9 | assumption | exact len3_le))⟩) ?_ (hg:=gq 19 rfl)
    refine .e rfl (fun H=>x_pkT (H.g 211 19) (H.g 214 22)) ?_ (hg:=gq 10 rfl)
    refine .mv rfl 23 ?_ (hg:=gq 10 rfl)
    refine .lr rfl 5 E1_2 B4 ?_ (hg:=gq 24 rfl)
    refine .lr rfl 16 E9_8 B26 ?_ (hg:=gq 24 rfl)
    refine .cK rfl (V:=.bool true) Tryz.func44 (fun H=>⟨_,ar2 (H.g 217 25) (H.g 218 26),reV (congrArg Value.bool (p16 (by assumption) (by assumption) (by assumption))) (iDvd _ _ (by first | exact p9 | assumption | exact len3_le))⟩) ?_ (hg:=gq 24 rfl)
    refine .e rfl (V:=.bool false) (fun H=>x_not (H.g 219 27)) ?_ (hg:=gq 24 rfl)
    refine .e rfl (fun H=>x_pkT (H.g 216 24) (H.g 220 28)) ?_ (hg:=gq 10 rfl)
    refine .e rfl (fun H=>x_pkF (H.g 202 10) (H.g 221 29)) ?_
    refine .dk (fun u=>gV x::gV y::gV z::sq u1 0 4 (u3 7::u3 8::u3 11::u5 6::u5 8::u6 6::u6 8::u7 8::u7 10::sq u9 8 3 (u9 14::u10 6::u10 8::u11 6::u11 8::u12 6::u12 8::u13 6::u13 8::u14 5::u14 7::u15 6::u15 8::gV x::gV y::gV z::.slice p_q ([rg x,rg y,rg z]).length c_q::.bool false::.bool false::gV x::.bool true::.bool false::.bool false::.bool false::gV y::.bool true::.bool false::.bool false::.bool false::gV z::.bool true::.bool false::.bool false::U::u3 3::sq u3 0 3 (sq u3 4 3 (sq u4 0 3 (u5 3::sq u5 0 3 (u5 4::u5 5::u6 3::sq u6 0 3 (u6 4::u6 5::u7 5::sq u7 0 5 (u7 6::u7 7::sq u8 0 26 (u9 3::sq u9 0 3 (sq u9 4 4 (u10 3::sq u10 0 3 (u10 4::u10 5::u11 3::sq u11 0 3 (u11 4::u11 5::u12 3::sq u12 0 3 (u12 4::u12 5::u13 3::sq u13 0 3 (u13 4::u13 5::u14 2::u14 0::u14 1::u14 3::u14 4::u15 3::sq u15 0 3 (u15 4::u15 5::sq u16 0 29 (u17 0::u17 1::sq uu 0 9 (sq u 0 31 (us 13)))))))))))))))))))) K46 bel fun u18 w18 D bel=>?_
    have E18_30:=D.q 30
    replace B26:=D.k B26
    replace B_q:=fun h=>D.k (B_q h)
    clear D
    refine wp_cond_false (by exact E18_30) ?_
    refine wp_skip ?_
    refine K45 _ _ ?_
    refine gs 14 (Amb Z0 W) fun _ K51=>?_
    refine .fz rfl 16 0 E9_8 ?_
    refine .lp rfl 0 (fC d.re) B26 ?_
    refine .cK rfl Tryz.func45 (fun H=>⟨_,ar1 (H.g 224 1),frSign _ (by first | exact p9 | assumption | exact len3_le)⟩) ?_
    refine .e rfl (V:=.bool true) (fun H=>x_cm (H.g 225 2) (H.c _) (decide_eq_true e7)) ?_
    refine .mv rfl 3 ?_
    refine .fz rfl 16 4 E9_8 ?_ (hg:=gq 4 rfl)
    refine .lp rfl 5 (fC d.im) B26 ?_ (hg:=gq 4 rfl)
    refine .cK rfl Tryz.func45 (fun H=>⟨_,ar1 (H.g 229 6),frSign _ (by first | exact p9 | assumption | exact len3_le)⟩) ?_ (hg:=gq 4 rfl)
    refine .e rfl (V:=.bool true) (fun H=>x_cm (H.g 230 7) (H.c _) (decide_eq_true e8)) ?_ (hg:=gq 4 rfl)
    refine .e rfl (fun H=>x_pkT (H.g 227 4) (H.g 231 8)) ?_
    refine .mv rfl 9 ?_
    refine .cK rfl Tryz.func9 (fun H=>⟨_,ar0,lKnown⟩) ?_ (hg:=gq 10 rfl)
    refine .e rfl (fun H=>x_pkT (H.g 233 10) (H.g 234 11)) ?_
    refine .mv rfl 12 ?_
    refine .dk (fun u=>gV x::gV y::gV z::sq u1 0 3 (u 13::u3 7::u3 8::u3 11::u5 6::u5 8::u6 6::u6 8::u7 8::u7 10::sq u9 8 3 (u9 14::u10 6::u10 8::u11 6::u11 8::u12 6::u12 8::u13 6::u13 8::u14 5::u14 7::u15 6::u15 8::gV x::gV y::gV z::.slice p_q ([rg x,rg y,rg z]).length c_q::.bool false::.bool false::gV x::.bool true::.bool false::.bool false::.bool false::gV y::.bool true::.bool false::.bool false::.bool false::gV z::.bool true::.bool false::.bool false::U::u3 3::sq u3 0 3 (sq u3 4 3 (sq u4 0 3 (u5 3::sq u5 0 3 (u5 4::u5 5::u6 3::sq u6 0 3 (u6 4::u6 5::u7 5::sq u7 0 5 (u7 6::u7 7::sq u8 0 26 (u9 3::sq u9 0 3 (sq u9 4 4 (u10 3::sq u10 0 3 (u10 4::u10 5::u11 3::sq u11 0 3 (u11 4::u11 5::u12 3::sq u12 0 3 (u12 4::u12 5::u13 3::sq u13 0 3 (u13 4::u13 5::u14 2::u14 0::u14 1::u14 3::u14 4::u15 3::sq u15 0 3 (u15 4::u15 5::sq u16 0 29 (u17 0::u17 1::sq uu 0 9 (sq u18 0 31 (sq u 0 13 [])))))))))))))))))))) K51 bel fun u19 w19 D bel=>?_
    have E19_13:=D.q 13
    replace B_q:=fun h=>D.k (B_q h)
    clear D
    exact wp_ret (rt rfl E19_13 rfl bel)
   ·
    refine gs 31 (Amb Z0 W) fun _ K46=>?_
    refine .lr rfl 16 E9_8 B26 ?_
    refine .lr rfl 3 E1_0 B2 ?_
    refine .cK rfl (V:=.bool true) Tryz.func44 (fun H=>⟨_,ar2 (H.g 192 0) (H.g 193 1),reV (congrArg Value.bool e3) (iDvd _ _ (by first | exact p9 | assumption | exact len3_le))⟩) ?_
    refine .e rfl (V:=.bool false) (fun H=>x_not (H.g 194 2)) ?_
    refine .mv rfl 3 ?_
    refine .lr rfl 16 E9_8 B26 ?_ (hg:=gq 4 rfl)
    refine .lr rfl 4 E1_1 B3 ?_ (hg:=gq 4 rfl)
    refine .cK rfl (V:=.bool true) Tryz.func44 (fun H=>⟨_,ar2 (H.g 197 5) (H.g 198 6),reV (congrArg Value.bool e4) (iDvd _ _ (by first | exact p9 | assumption | exact len3_le))⟩) ?_ (hg:=gq 4 rfl)
    refine .e rfl (V:=.bool false) (fun H=>x_not (H.g 199 7)) ?_ (hg:=gq 4 rfl)
    refine .e rfl (fun H=>x_pkF (H.g 196 4) (H.g 200 8)) ?_
    refine .mv rfl 9 ?_
    refine .lr rfl 5 E1_2 B4 ?_ (hg:=gq 10 rfl)
    refine .cK rfl (V:=.bool false) Tryz.func37 (fun H=>⟨_,ar1 (H.g 203 11),reV (congrArg Value.bool c47) (iZero _)⟩) ?_ (hg:=gq 10 rfl)
    refine .e rfl (V:=.bool true) (fun H=>x_not (H.g 204 12)) ?_ (hg:=gq 10 rfl)
    refine .mv rfl 13 ?_ (hg:=gq 10 rfl)
    refine .lr rfl 5 E1_2 B4 ?_ (hg:=gq 14 rfl)
    refine .lr rfl 3 E1_0 B2 ?_ (hg:=gq 14 rfl)
    refine .cK rfl (V:=.bool true) Tryz.func44 (fun H=>⟨_,ar2 (H.g 207 15) (H.g 208 16),reV (congrArg Value.bool c49) (iDvd _ _ (by first | exact p9 | assumption | exact len3_le))⟩) ?_ (hg:=gq 14 rfl)
    refine .e rfl (fun H=>x_pkT (H.g 206 14) (H.g 209 17)) ?_ (hg:=gq 10 rfl)
    refine .mv rfl 18 ?_ (hg:=gq 10 rfl)
    refine .lr rfl 5 E1_2 B4 ?_ (hg:=gq 19 rfl)
    refine .lr rfl 4 E1_1 B3 ?_ (hg:=gq 19 rfl)
    refine .cK rfl (V:=.bool false) Tryz.func44 (fun H=>⟨_,ar2 (H.g 212 20) (H.g 213 21),reV (congrArg Value.bool c50) (iDvd _ _ (by first | exact p9 | assumption | exact len3_le))⟩) ?_ (hg:=gq 19 rfl)
    refine .e rfl (fun H=>x_pkT (H.g 211 19) (H.g 214 22)) ?_ (hg:=gq 10 rfl)
    refine .mv rfl 23 ?_ (hg:=gq 10 rfl)
    refine .sk rfl 24 ?_
    refine .sk rfl 24 ?_
    refine .sk rfl 24 ?_
    refine .sk rfl 24 ?_
    refine .e rfl (fun H=>x_pkF (H.g 216 24) (H.c _)) ?_ (hg:=gq 10 rfl)
    refine .e rfl (fun H=>x_pkF (H.g 202 10) (H.g 221 29)) ?_
    refine .dk (fun u=>gV x::gV y::gV z::sq u1 0 4 (u3 7::u3 8::u3 11::u5 6::u5 8::u6 6::u6 8::u7 8::u7 10::sq u9 8 3 (u9 14::u10 6::u10 8::u11 6::u11 8::u12 6::u12 8::u13 6::u13 8::u14 5::u14 7::u15 6::u15 8::gV x::gV y::gV z::.slice p_q ([rg x,rg y,rg z]).length c_q::.bool false::.bool false::gV x::.bool true::.bool false::.bool false::.bool false::gV y::.bool true::.bool false::.bool false::.bool false::gV z::.bool true::.bool false::.bool false::U::u3 3::sq u3 0 3 (sq u3 4 3 (sq u4 0 3 (u5 3::sq u5 0 3 (u5 4::u5 5::u6 3::sq u6 0 3 (u6 4::u6 5::u7 5::sq u7 0 5 (u7 6::u7 7::sq u8 0 26 (u9 3::sq u9 0 3 (sq u9 4 4 (u10 3::sq u10 0 3 (u10 4::u10 5::u11 3::sq u11 0 3 (u11 4::u11 5::u12 3::sq u12 0 3 (u12 4::u12 5::u13 3::sq u13 0 3 (u13 4::u13 5::u14 2::u14 0::u14 1::u14 3::u14 4::u15 3::sq u15 0 3 (u15 4::u15 5::sq u16 0 29 (u17 0::u17 1::sq uu 0 9 (sq u 0 31 (us 13)))))))))))))))))))) K46 bel fun u18 w18 D bel=>?_
    have E18_30:=D.q 30
    replace B26:=D.k B26
    replace B_q:=fun h=>D.k (B_q h)
    clear D
    refine wp_cond_false (by exact E18_30) ?_
    refine wp_skip ?_
    refine K45 _ _ ?_
    refine gs 14 (Amb Z0 W) fun _ K52=>?_
    refine .fz rfl 16 0 E9_8 ?_
    refine .lp rfl 0 (fC d.re) B26 ?_
    refine .cK rfl Tryz.func45 (fun H=>⟨_,ar1 (H.g 224 1),frSign _ (by first | exact p9 | assumption | exact len3_le)⟩) ?_
    refine .e rfl (V:=.bool true) (fun H=>x_cm (H.g 225 2) (H.c _) (decide_eq_true e7)) ?_
    refine .mv rfl 3 ?_
    refine .fz rfl 16 4 E9_8 ?_ (hg:=gq 4 rfl)
    refine .lp rfl 5 (fC d.im) B26 ?_ (hg:=gq 4 rfl)
    refine .cK rfl Tryz.func45 (fun H=>⟨_,ar1 (H.g 229 6),frSign _ (by first | exact p9 | assumption | exact len3_le)⟩) ?_ (hg:=gq 4 rfl)
    refine .e rfl (V:=.bool true) (fun H=>x_cm (H.g 230 7) (H.c _) (decide_eq_true e8)) ?_ (hg:=gq 4 rfl)
    refine .e rfl (fun H=>x_pkT (H.g 227 4) (H.g 231 8)) ?_
    refine .mv rfl 9 ?_
    refine .cK rfl Tryz.func9 (fun H=>⟨_,ar0,lKnown⟩) ?_ (hg:=gq 10 rfl)
    refine .e rfl (fun H=>x_pkT (H.g 233 10) (H.g 234 11)) ?_
    refine .mv rfl 12 ?_
    refine .dk (fun u=>gV x::gV y::gV z::sq u1 0 3 (u 13::u3 7::u3 8::u3 11::u5 6::u5 8::u6 6::u6 8::u7 8::u7 10::sq u9 8 3 (u9 14::u10 6::u10 8::u11 6::u11 8::u12 6::u12 8::u13 6::u13 8::u14 5::u14 7::u15 6::u15 8::gV x::gV y::gV z::.slice p_q ([rg x,rg y,rg z]).length c_q::.bool false::.bool false::gV x::.bool true::.bool false::.bool false::.bool false::gV y::.bool true::.bool false::.bool false::.bool false::gV z::.bool true::.bool false::.bool false::U::u3 3::sq u3 0 3 (sq u3 4 3 (sq u4 0 3 (u5 3::sq u5 0 3 (u5 4::u5 5::u6 3::sq u6 0 3 (u6 4::u6 5::u7 5::sq u7 0 5 (u7 6::u7 7::sq u8 0 26 (u9 3::sq u9 0 3 (sq u9 4 4 (u10 3::sq u10 0 3 (u10 4::u10 5::u11 3::sq u11 0 3 (u11 4::u11 5::u12 3::sq u12 0 3 (u12 4::u12 5::u13 3::sq u13 0 3 (u13 4::u13 5::u14 2::u14 0::u14 1::u14 3::u14 4::u15 3::sq u15 0 3 (u15 4::u15 5::sq u16 0 29 (u17 0::u17 1::sq uu 0 9 (sq u18 0 31 (sq u 0 13 [])))))))))))))))))))) K52 bel fun u19 w19 D bel=>?_
    have E19_13:=D.q 13
    replace B_q:=fun h=>D.k (B_q h)
    clear D
    exact wp_ret (rt rfl E19_13 rfl bel)
  ·
   refine gs 31 (Amb Z0 W) fun _ K46=>?_
   refine .lr rfl 16 E9_8 B26 ?_
   refine .lr rfl 3 E1_0 B2 ?_
   refine .cK rfl (V:=.bool true) Tryz.func44 (fun H=>⟨_,ar2 (H.g 192 0) (H.g 193 1),reV (congrArg Value.bool e3) (iDvd _ _ (by first | exact p9 | assumption | exact len3_le))⟩) ?_
   refine .e rfl (V:=.bool false) (fun H=>x_not (H.g 194 2)) ?_
   refine .mv rfl 3 ?_
   refine .lr rfl 16 E9_8 B26 ?_ (hg:=gq 4 rfl)
   refine .lr rfl 4 E1_1 B3 ?_ (hg:=gq 4 rfl)
   refine .cK rfl (V:=.bool true) Tryz.func44 (fun H=>⟨_,ar2 (H.g 197 5) (H.g 198 6),reV (congrArg Value.bool e4) (iDvd _ _ (by first | exact p9 | assumption | exact len3_le))⟩) ?_ (hg:=gq 4 rfl)
   refine .e rfl (V:=.bool false) (fun H=>x_not (H.g 199 7)) ?_ (hg:=gq 4 rfl)
   refine .e rfl (fun H=>x_pkF (H.g 196 4) (H.g 200 8)) ?_
   refine .mv rfl 9 ?_
   refine .lr rfl 5 E1_2 B4 ?_ (hg:=gq 10 rfl)
   refine .cK rfl (V:=.bool false) Tryz.func37 (fun H=>⟨_,ar1 (H.g 203 11),reV (congrArg Value.bool c47) (iZero _)⟩) ?_ (hg:=gq 10 rfl)
   refine .e rfl (V:=.bool true) (fun H=>x_not (H.g 204 12)) ?_ (hg:=gq 10 rfl)
   refine .mv rfl 13 ?_ (hg:=gq 10 rfl)
   refine .lr rfl 5 E1_2 B4 ?_ (hg:=gq 14 rfl)
   refine .lr rfl 3 E1_0 B2 ?_ (hg:=gq 14 rfl)
   refine .cK rfl (V:=.bool false) Tryz.func44 (fun H=>⟨_,ar2 (H.g 207 15) (H.g 208 16),reV (congrArg Value.bool c49) (iDvd _ _ (by first | exact p9 | assumption | exact len3_le))⟩) ?_ (hg:=gq 14 rfl)
   refine .e rfl (fun H=>x_pkT (H.g 206 14) (H.g 209 17)) ?_ (hg:=gq 10 rfl)
   refine .mv rfl 18 ?_ (hg:=gq 10 rfl)
   refine .sk rfl 19 ?_
   refine .sk rfl 19 ?_
   refine .sk rfl 19 ?_
   refine .e rfl (fun H=>x_pkF (H.g 211 19) (H.c _)) ?_ (hg:=gq 10 rfl)
   refine .mv rfl 23 ?_ (hg:=gq 10 rfl)
   refine .sk rfl 24 ?_
   refine .sk rfl 24 ?_
   refine .sk rfl 24 ?_
   refine .sk rfl 24 ?_
   refine .e rfl (fun H=>x_pkF (H.g 216 24) (H.c _)) ?_ (hg:=gq 10 rfl)
   refine .e rfl (fun H=>x_pkF (H.g 202 10) (H.g 221 29)) ?_
   refine .dk (fun u=>gV x::gV y::gV z::sq u1 0 4 (u3 7::u3 8::u3 11::u5 6::u5 8::u6 6::u6 8::u7 8::u7 10::sq u9 8 3 (u9 14::u10 6::u10 8::u11 6::u11 8::u12 6::u12 8::u13 6::u13 8::u14 5::u14 7::u15 6::u15 8::gV x::gV y::gV z::.slice p_q ([rg x,rg y,rg z]).length c_q::.bool false::.bool false::gV x::.bool true::.bool false::.bool false::.bool false::gV y::.bool true::.bool false::.bool false::.bool false::gV z::.bool true::.bool false::.bool false::U::u3 3::sq u3 0 3 (sq u3 4 3 (sq u4 0 3 (u5 3::sq u5 0 3 (u5 4::u5 5::u6 3::sq u6 0 3 (u6 4::u6 5::u7 5::sq u7 0 5 (u7 6::u7 7::sq u8 0 26 (u9 3::sq u9 0 3 (sq u9 4 4 (u10 3::sq u10 0 3 (u10 4::u10 5::u11 3::sq u11 0 3 (u11 4::u11 5::u12 3::sq u12 0 3 (u12 4::u12 5::u13 3::sq u13 0 3 (u13 4::u13 5::u14 2::u14 0::u14 1::u14 3::u14 4::u15 3::sq u15 0 3 (u15 4::u15 5::sq u16 0 29 (u17 0::u17 1::sq uu 0 9 (sq u 0 31 (us 13)))))))))))))))))))) K46 bel fun u18 w18 D bel=>?_
   have E18_30:=D.q 30
   replace B26:=D.k B26
   replace B_q:=fun h=>D.k (B_q h)
   clear D
   refine wp_cond_false (by exact E18_30) ?_
   refine wp_skip ?_
   refine K45 _ _ ?_
   refine gs 14 (Amb Z0 W) fun _ K53=>?_
   refine .fz rfl 16 0 E9_8 ?_
   refine .lp rfl 0 (fC d.re) B26 ?_
   refine .cK rfl Tryz.func45 (fun H=>⟨_,ar1 (H.g 224 1),frSign _ (by first | exact p9 | assumption | exact len3_le)⟩) ?_
   refine .e rfl (V:=.bool true) (fun H=>x_cm (H.g 225 2) (H.c _) (decide_eq_true e7)) ?_
   refine .mv rfl 3 ?_
   refine .fz rfl 16 4 E9_8 ?_ (hg:=gq 4 rfl)
   refine .lp rfl 5 (fC d.im) B26 ?_ (hg:=gq 4 rfl)
   refine .cK rfl Tryz.func45 (fun H=>⟨_,ar1 (H.g 229 6),frSign _ (by first | exact p9 | assumption | exact len3_le)⟩) ?_ (hg:=gq 4 rfl)
   refine .e rfl (V:=.bool true) (fun H=>x_cm (H.g 230 7) (H.c _) (decide_eq_true e8)) ?_ (hg:=gq 4 rfl)
   refine .e rfl (fun H=>x_pkT (H.g 227 4) (H.g 231 8)) ?_
   refine .mv rfl 9 ?_
   refine .cK rfl Tryz.func9 (fun H=>⟨_,ar0,lKnown⟩) ?_ (hg:=gq 10 rfl)
   refine .e rfl (fun H=>x_pkT (H.g 233 10) (H.g 234 11)) ?_
   refine .mv rfl 12 ?_
   refine .dk (fun u=>gV x::gV y::gV z::sq u1 0 3 (u 13::u3 7::u3 8::u3 11::u5 6::u5 8::u6 6::u6 8::u7 8::u7 10::sq u9 8 3 (u9 14::u10 6::u10 8::u11 6::u11 8::u12 6::u12 8::u13 6::u13 8::u14 5::u14 7::u15 6::u15 8::gV x::gV y::gV z::.slice p_q ([rg x,rg y,rg z]).length c_q::.bool false::.bool false::gV x::.bool true::.bool false::.bool false::.bool false::gV y::.bool true::.bool false::.bool false::.bool false::gV z::.bool true::.bool false::.bool false::U::u3 3::sq u3 0 3 (sq u3 4 3 (sq u4 0 3 (u5 3::sq u5 0 3 (u5 4::u5 5::u6 3::sq u6 0 3 (u6 4::u6 5::u7 5::sq u7 0 5 (u7 6::u7 7::sq u8 0 26 (u9 3::sq u9 0 3 (sq u9 4 4 (u10 3::sq u10 0 3 (u10 4::u10 5::u11 3::sq u11 0 3 (u11 4::u11 5::u12 3::sq u12 0 3 (u12 4::u12 5::u13 3::sq u13 0 3 (u13 4::u13 5::u14 2::u14 0::u14 1::u14 3::u14 4::u15 3::sq u15 0 3 (u15 4::u15 5::sq u16 0 29 (u17 0::u17 1::sq uu 0 9 (sq u18 0 31 (sq u 0 13 [])))))))))))))))))))) K53 bel fun u19 w19 D bel=>?_
   have E19_13:=D.q 13
   replace B_q:=fun h=>D.k (B_q h)
   clear D
   exact wp_ret (rt rfl E19_13 rfl bel)
end Go.Proofs.YtllohoibifcmdaaGreat
namespace Go.Proofs.YtllohoibifcmdaaGreat
open Go.RowKit Rgn
theorem one_norm:(Cx.ofInt (1:Int) (0:Int)).norm = 1:=by decide +kernel
theorem nil_norm:(Cx.ofInt (0:Int) (0:Int)).norm = 0:=by decide +kernel
theorem rows_start {a b:Cx} {K:Rat} (hK:1 ≤ K) (ia:isI a) (ib:isI b) (ha:a.norm + a.norm + a.norm + a.norm ≤ K) (hb:b.norm + b.norm + b.norm + b.norm ≤ K) :
  Rows2 a b K a (Cx.ofInt (1:Int) (0:Int)) (Cx.ofInt (0:Int) (0:Int)) b (Cx.ofInt (0:Int) (0:Int)) (Cx.ofInt (1:Int) (0:Int)):=by
 have e1:=one_norm
 have e0:=nil_norm
 have na:=norm_nonneg a
 have nb:=norm_nonneg b
 have c1:((1:Int):Rat) = 1:=rfl
 have c0:((0:Int):Rat) = 0:=rfl
 refine ⟨ia,⟨1,0,rfl⟩,⟨0,0,rfl⟩,ib,⟨0,0,rfl⟩,⟨1,0,rfl⟩,.inl ?_,.inr ?_,?_,?_,?_,?_,?_,?_,?_,?_⟩
 ·refine Cx.ext' ?_ ?_
  ·show a.re * ((1:Int):Rat) - a.im * ((0:Int):Rat) - (b.re * ((0:Int):Rat) - b.im * ((0:Int):Rat)) = a.re
   rw [c1,c0]; grind
  ·show a.re * ((0:Int):Rat) + a.im * ((1:Int):Rat) - (b.re * ((0:Int):Rat) + b.im * ((0:Int):Rat)) = a.im
   rw [c1,c0]; grind
 ·refine Cx.ext' ?_ ?_
  ·show a.re * ((0:Int):Rat) - a.im * ((0:Int):Rat) - (b.re * ((1:Int):Rat) - b.im * ((0:Int):Rat)) = -b.re
   rw [c1,c0]; grind
  ·show a.re * ((0:Int):Rat) + a.im * ((0:Int):Rat) - (b.re * ((0:Int):Rat) + b.im * ((1:Int):Rat)) = -b.im
   rw [c1,c0]; grind
 ·rw [e1]; grind
 ·rw [e0]; grind
 all_goals first | (rw [e1]; exact hK) | (rw [e0]; grind) | grind
theorem short_abs {j:Nat} (hj:j = 320) {a:Int} (h:¬ (40:Int) < ((rw a).s.size:Int)):a.natAbs < 2 ^ j:=by
 have h1:=hi_bytes a
 have h2:hi a = bl a.natAbs + 1:=rfl
 exact bl_le.1 (by omega)
theorem big4 (j:Nat):(2:Int) ^ (2 * (j + 2)) = 16 * (((2 ^ j:Nat):Int) * ((2 ^ j:Nat):Int)):=by
 have e:((2 ^ j:Nat):Int) = (2:Int) ^ j:=by rw [Int.natCast_pow]; rfl
 rw [e,show 2 * (j + 2) = j + j + 4 by omega,Int.pow_add,Int.pow_add,Int.mul_comm]; rfl
def nsm (k:Nat) (x:Cx):Prop:=x.norm + x.norm + x.norm + x.norm ≤ ((2 ^ (2 * k):Int):Rat)
theorem short_norm {j:Nat} (hj:j = 320) {a b:Int} (h:wide1 40 (rg (Cx.ofInt a b)) = false):nsm (j + 2) (Cx.ofInt a b):=by
 unfold wide1 at h
 simp only [Bool.or_eq_false_iff,decide_eq_false_iff_not] at h
 obtain ⟨⟨⟨h1,_⟩,h2⟩,_⟩:=h
 have h1:¬ (40:Int) < ((rw ((a:Rat)).num).s.size:Int):=h1
 have h2:¬ (40:Int) < ((rw ((b:Rat)).num).s.size:Int):=h2
 rw [Rat.num_intCast] at h1 h2
 have k1:=short_abs hj h1
 have k2:=short_abs hj h2
 clear h1 h2
 unfold nsm
 rw [norm_int,← cast_add,← cast_add,← cast_add,cast_le,big4,← Int.natAbs_mul_self' a,← Int.natAbs_mul_self' b]
 generalize 2 ^ j = P at *
 have m1:a.natAbs * a.natAbs ≤ P * P:=Nat.mul_le_mul (Nat.le_of_lt k1) (Nat.le_of_lt k1)
 have m2:b.natAbs * b.natAbs ≤ P * P:=Nat.mul_le_mul (Nat.le_of_lt k2) (Nat.le_of_lt k2)
 have m3:(a.natAbs:Int) * (a.natAbs:Int) ≤ (P:Int) * (P:Int):=by exact_mod_cast m1
 have m4:(b.natAbs:Int) * (b.natAbs:Int) ≤ (P:Int) * (P:Int):=by exact_mod_cast m2
 have m5:(0:Int) ≤ (a.natAbs:Int) * (a.natAbs:Int):=by exact_mod_cast Nat.zero_le _
 have m6:(0:Int) ≤ (b.natAbs:Int) * (b.natAbs:Int):=by exact_mod_cast Nat.zero_le _
 clear m1 m2 k1 k2
 generalize (a.natAbs:Int) * (a.natAbs:Int) = A at *
 generalize (b.natAbs:Int) * (b.natAbs:Int) = B at *
 generalize (P:Int) * (P:Int) = C at *
 omega
theorem short_ht {k:Nat} {a b:Int} (h:nsm k (Cx.ofInt a b)):ht (Cx.ofInt a b).re ≤ k + 3 ∧ ht (Cx.ofInt a b).im ≤ k + 3:=by
 have:=norm_nonneg (Cx.ofInt a b)
 unfold nsm at h
 exact ht_norm ⟨a,b,rfl⟩ (by grind)
theorem unit_fits {k:Nat} (hk:k ≤ 1000) {z:Cx} (n:Nat) (h:ht z.re ≤ k + 3 ∧ ht z.im ≤ k + 3):gfits (rg (z.mul (unitC n))) = true:=by
 have h1:=ht_unit n
 have h2:=hc_mul z (unitC n)
 exact gfits_ht ⟨by omega,by omega⟩
theorem pow_one_le (k:Nat):(1:Rat) ≤ ((2 ^ (2 * k):Int):Rat):=by
 have h:(0:Int) < 2 ^ (2 * k):=Int.pow_pos (by decide)
 exact (cast_le (a:=1)).2 (by omega)
theorem comb_any {k:Nat} (hk:k ≤ 1000) {a b c d:Int} (ha:nsm k (Cx.ofInt a b)) (hb:nsm k (Cx.ofInt c d)) :
  ∃ N r,combC N (Cx.ofInt a b) (Cx.ofInt (1:Int) (0:Int)) (Cx.ofInt (0:Int) (0:Int)) (Cx.ofInt c d) (Cx.ofInt (0:Int) (0:Int)) (Cx.ofInt (1:Int) (0:Int)) = some r ∧ (ht r.1.re ≤ k + 3 ∧ ht r.1.im ≤ k + 3) ∧ (ht r.2.1.re ≤ k + 3 ∧ ht r.2.1.im ≤ k + 3) ∧ (ht r.2.2.re ≤ k + 3 ∧ ht r.2.2.im ≤ k + 3):=by
 have hn:(Cx.ofInt c d).norm ≤ (((((c * c + d * d).toNat:Nat):Int)):Rat):=by
  rw [norm_int,cast_le]
  exact Int.self_le_toNat _
 obtain ⟨r,h1,_,h2⟩:=comb_ends (by omega) ha hb _ _ _ _ _ _ _ (rows_start (pow_one_le k) ⟨a,b,rfl⟩ ⟨c,d,rfl⟩ ha hb) hn
 exact ⟨_,r,h1,h2⟩
theorem wide_three {r q t:RG} (h:wideU (40:Int) [r,q,t] = false):wide1 40 r = false ∧ wide1 40 q = false ∧ wide1 40 t = false:=by
 unfold wideU at h
 simpa using h
theorem start_x (x y:Cx):x = ((Cx.ofInt (1:Int) (0:Int)).mul x).add ((Cx.ofInt (0:Int) (0:Int)).mul y):=by
 have c1:((1:Int):Rat) = 1:=rfl
 have c0:((0:Int):Rat) = 0:=rfl
 refine Cx.ext' ?_ ?_
 ·show x.re = (((1:Int):Rat) * x.re - ((0:Int):Rat) * x.im) + (((0:Int):Rat) * y.re - ((0:Int):Rat) * y.im)
  rw [c1,c0]; grind
 ·show x.im = (((1:Int):Rat) * x.im + ((0:Int):Rat) * x.re) + (((0:Int):Rat) * y.im + ((0:Int):Rat) * y.re)
  rw [c1,c0]; grind
theorem start_y (x y:Cx):y = ((Cx.ofInt (0:Int) (0:Int)).mul x).add ((Cx.ofInt (1:Int) (0:Int)).mul y):=by
 have c1:((1:Int):Rat) = 1:=rfl
 have c0:((0:Int):Rat) = 0:=rfl
 refine Cx.ext' ?_ ?_
 ·show y.re = (((0:Int):Rat) * x.re - ((0:Int):Rat) * x.im) + (((1:Int):Rat) * y.re - ((0:Int):Rat) * y.im)
  rw [c1,c0]; grind
 ·show y.im = (((0:Int):Rat) * x.im + ((0:Int):Rat) * x.re) + (((1:Int):Rat) * y.im + ((0:Int):Rat) * y.re)
  rw [c1,c0]; grind
theorem comb_all {k:Nat} (hk:k ≤ 1000) {x y:Cx} (ix:isI x) (iy:isI y) (hx:nsm k x) (hy:nsm k y) :
  ∃ N r,combC N x (Cx.ofInt (1:Int) (0:Int)) (Cx.ofInt (0:Int) (0:Int)) y (Cx.ofInt (0:Int) (0:Int)) (Cx.ofInt (1:Int) (0:Int)) = some r ∧ (ht r.1.re ≤ k + 3 ∧ ht r.1.im ≤ k + 3) ∧ (ht r.2.1.re ≤ k + 3 ∧ ht r.2.1.im ≤ k + 3) ∧ (ht r.2.2.re ≤ k + 3 ∧ ht r.2.2.im ≤ k + 3) ∧
   (isI r.1 ∧ isI r.2.1 ∧ isI r.2.2) ∧ r.1 = (r.2.1.mul x).add (r.2.2.mul y) ∧ dv r.1 x ∧ dv r.1 y:=by
 obtain ⟨a,b,rfl⟩:=ix
 obtain ⟨c,d,rfl⟩:=iy
 obtain ⟨N,r,h0,h1,h2,h3⟩:=comb_any hk hx hy
 obtain ⟨q1,q2,q3,q4⟩:=comb_law h0 ⟨a,b,rfl⟩ ⟨1,0,rfl⟩ ⟨0,0,rfl⟩ ⟨c,d,rfl⟩ ⟨0,0,rfl⟩ ⟨1,0,rfl⟩ (start_x _ _) (start_y _ _)
 exact ⟨N,r,h0,h1,h2,h3,q1,q2,q3,q4⟩
theorem isI_unit (k:Nat):isI (unitC k):=by
 unfold unitC
 split <;> exact ⟨_,_,rfl⟩
theorem fst_dv (z:Cx):dv (fst1 z) z:=by
 have hk:(firstC z).toNat < 4:=by have:=firstC_cases z; omega
 obtain ⟨m,hm,e⟩:=unit_back hk (show 0 < 4 by decide)
 exact ⟨unitC m,isI_unit m,by unfold fst1; rw [cmul_assoc,e,unit_0]⟩
theorem dv_fst (z:Cx):dv z (fst1 z):=⟨_,isI_unit _,rfl⟩
theorem may_of {q:Rat} (h:ht q ≤ 8192):fmay (rf q) = true:=by
 unfold fmay
 rw [fits_ht h,fformed_rf]; rfl
theorem whole_of {x:Cx} (ix:isI x) (h:ht x.re ≤ 8192 ∧ ht x.im ≤ 8192):gwhole (rg x) = true:=by
 obtain ⟨a,b,rfl⟩:=ix
 exact gwhole_int h
theorem whole_is {x:Cx} (h:gwhole (rg x) = true):isI x:=by
 obtain ⟨a,b,e⟩:=gwhole_ex h
 exact ⟨a,b,rg_inj e⟩
theorem dvd_is {x y:Cx} (hx:ht x.re + ht x.im ≤ 1360) (hy:ht y.re + ht y.im ≤ 1360) (hz:x.zero = false):DvdIs x y:=.mk fun W=>by
 have h1:=hc_div y x
 exact lDvd x y (gfits_ht ⟨by omega,by omega⟩) (gfits_ht ⟨by omega,by omega⟩) hz (gfits_ht ⟨by omega,by omega⟩)
theorem dvB_iff {x y:Cx} (hx:ht x.re + ht x.im ≤ 1360) (hy:ht y.re + ht y.im ≤ 1360) (hz:x.zero = false):dvB x y = true ↔ dv x y:=by
 have h1:=hc_div y x
 rw [dv_iff hz]
 exact ⟨whole_is,fun h=>whole_of h ⟨by omega,by omega⟩⟩
theorem mul_is {x y:Cx} (h:ht x.re + ht x.im + ht y.re + ht y.im ≤ 8192):MulIs x y:=.mk fun W=>by
 have h1:=hc_mul x y
 exact gaMulY x y (gfits_ht ⟨by omega,by omega⟩) (gfits_ht ⟨by omega,by omega⟩) (gfits_ht ⟨by omega,by omega⟩)
theorem add_is {x y:Cx} (h:ht x.re + ht x.im + ht y.re + ht y.im ≤ 8192):AddIs x y:=.mk fun W=>by
 have h1:=hc_add x y
 exact gaAddY x y (gfits_ht ⟨by omega,by omega⟩) (gfits_ht ⟨by omega,by omega⟩) (gfits_ht ⟨by omega,by omega⟩)
theorem norm_cj (x:Cx):(x.conj.mul x).re = x.norm:=by
 show x.re * x.re - (-x.im) * x.im = x.re * x.re + x.im * x.im
 grind
theorem ht_nrm (x:Cx):ht x.norm ≤ 2 * (ht x.re + ht x.im):=by
 have h1:=hc_conj x
 have h2:=hc_mul x.conj x
 rw [norm_cj] at h2
 omega
theorem norm_is {x:Cx} (h:ht x.re + ht x.im ≤ 4096):NormIs x:=.mk fun W=>by
 have h1:=ht_nrm x
 have h2:=lNorm (W:=W) x (gfits_ht ⟨by omega,by omega⟩) (fits_ht (by rw [norm_cj]; omega))
 rw [norm_cj] at h2
 exact h2
theorem rf_add_is {x y:Rat} (h:ht x + ht y ≤ 8192):FAddIs x y:=.mk fun W=>by
 have h1:=ht_add x y
 exact frAddY x y (may_of (by omega)) (may_of (by omega)) (by omega) (fits_ht (by omega))
theorem under_is {x y:Rat} (h:ht x + ht y ≤ 8192) (hle:x ≤ y):UnderIs x y:=.mk fun W=>by
 have h2:=lUnder (W:=W) x y (may_of (by omega)) (may_of (by omega)) (by omega)
 have h3:¬ 0 < icmp (x.num * (y.den:Int)) (y.num * (x.den:Int)):=fun h=>by
  rw [icmp_pos,← Rat.lt_iff] at h
  grind
 rw [decide_eq_true (by omega)] at h2
 exact h2
theorem div_facts {k:Nat} (hk:k ≤ 330) {x y:Cx} (ix:isI x) (iy:isI y) (hx:nsm k x) (hy:nsm k y) (hz:y.zero = false) (wx:gwhole (rg x) = true) (wy:gwhole (rg y) = true) :
  ∃ q r,DivIs x y q r ∧ MulIs q y ∧ AddIs (q.mul y) r ∧ (q.mul y).add r = x ∧ NormIs r ∧ NormIs y ∧ FAddIs r.norm r.norm ∧ UnderIs (r.norm + r.norm) y.norm:=by
 have ax:ht x.re ≤ k + 3 ∧ ht x.im ≤ k + 3:=by obtain ⟨a,b,rfl⟩:=ix; exact short_ht hx
 have ay:ht y.re ≤ k + 3 ∧ ht y.im ≤ k + 3:=by obtain ⟨a,b,rfl⟩:=iy; exact short_ht hy
 have iq:=isI_near (x.div y)
 have q1:=hc_div x y
 have q2:=ht_rnd (x.div y).re
 have q3:=ht_rnd (x.div y).im
 have q4:=rest_half x (zero_norm hz)
 have q5:=norm_nonneg (x.sub ((x.div y).near.mul y))
 have q6:=norm_nonneg y
 have fq:ht (x.div y).near.re ≤ 4100 ∧ ht (x.div y).near.im ≤ 4100:=⟨by show ht ((rnd _:Int):Rat) ≤ _; omega,by show ht ((rnd _:Int):Rat) ≤ _; omega⟩
 have ar:ht (x.sub ((x.div y).near.mul y)).re ≤ k + 3 ∧ ht (x.sub ((x.div y).near.mul y)).im ≤ k + 3:=ht_norm (k:=k) (isI_sub ix (isI_mul iq iy)) (by unfold nsm at hy; grind)
 have hc:∀ W,Calls Tryz.prog 23 #[gV x,gV y] W (RetV (.tuple #[gV ((x.div y).near),gV (x.sub ((x.div y).near.mul y)),.int .i64 0]) W):=fun W =>
  hDivC x y wx wy hz (by omega) (gfits_ht ⟨by omega,by omega⟩) (gfits_ht ⟨by omega,by omega⟩)
 generalize (x.div y).near = q at *
 have e:(q.mul y).add (x.sub (q.mul y)) = x:=by
  refine Cx.ext' ?_ ?_
  ·show (q.mul y).re + (x.re - (q.mul y).re) = x.re; grind
  ·show (q.mul y).im + (x.im - (q.mul y).im) = x.im; grind
 have e' : q.mul y = x.sub (x.sub (q.mul y)):=by
  refine Cx.ext' ?_ ?_
  ·show (q.mul y).re = x.re - (x.re - (q.mul y).re); grind
  ·show (q.mul y).im = x.im - (x.im - (q.mul y).im); grind
 generalize hr:x.sub (q.mul y) = r at *
 have am:=hc_sub x r
 rw [← e'] at am
 have n1:=ht_nrm r
 have n2:=ht_nrm y
 have n3:=ht_add r.norm r.norm
 exact ⟨q,r,⟨hc⟩,⟨fun W=>gaMulY q y (gfits_ht ⟨by omega,by omega⟩) (gfits_ht ⟨by omega,by omega⟩) (gfits_ht ⟨by omega,by omega⟩)⟩,add_is (by omega),e,norm_is (by omega),norm_is (by omega),rf_add_is (by omega),under_is (by omega) q4⟩
theorem norm_turn (x:Cx):(x.mul (Cx.ofInt (0:Int) (1:Int))).norm = x.norm:=by
 rw [norm_mul,show (Cx.ofInt (0:Int) (1:Int)).norm = 1 by decide +kernel]
 grind
theorem turn_back (x:Cx):x = (unitC 3).mul (x.mul (Cx.ofInt (0:Int) (1:Int))):=by
 have h:(Cx.ofInt (0:Int) (1:Int)).mul (unitC 3) = unitC 0:=by decide +kernel
 rw [cmul_comm,cmul_assoc,h,unit_0]
theorem lRests {W:World} (r q t:RG):Calls Tryz.prog 6 #[rgV r,rgV q,rgV t] W (RetV (.bool true) W):=by
 obtain ⟨j,hj⟩:∃ j:Nat,j = 320:=⟨_,rfl⟩
 cases hw:wideU (40:Int) [r,q,t] with
 | true=>exact lRest0 r q t hw
 | false =>
 cases wx:gwhole r with
 | false=>exact lRest1 r q t hw wx
 | true =>
 cases wy:gwhole q with
 | false=>exact lRest2 r q t hw wx wy
 | true =>
 cases wz:gwhole t with
 | false=>exact lRest3 r q t hw wx wy wz
 | true =>
 obtain ⟨w1,w2,w3⟩:=wide_three hw
 obtain ⟨k,hk⟩:∃ k:Nat,k = j + 2:=⟨_,rfl⟩
 obtain ⟨x,rfl,ix,nx,ax⟩:∃ x,r = rg x ∧ isI x ∧ nsm k x ∧ (ht x.re ≤ k + 3 ∧ ht x.im ≤ k + 3):=by
  obtain ⟨a,b,rfl⟩:=gwhole_ex wx
  have n:=short_norm hj w1
  subst hk
  exact ⟨_,rfl,⟨a,b,rfl⟩,n,short_ht n⟩
 obtain ⟨y,rfl,iy,ny,ay⟩:∃ x,q = rg x ∧ isI x ∧ nsm k x ∧ (ht x.re ≤ k + 3 ∧ ht x.im ≤ k + 3):=by
  obtain ⟨a,b,rfl⟩:=gwhole_ex wy
  have n:=short_norm hj w2
  subst hk
  exact ⟨_,rfl,⟨a,b,rfl⟩,n,short_ht n⟩
 obtain ⟨z,rfl,iz,nz,bz⟩:∃ x,t = rg x ∧ isI x ∧ nsm k x ∧ (ht x.re ≤ k + 3 ∧ ht x.im ≤ k + 3):=by
  obtain ⟨a,b,rfl⟩:=gwhole_ex wz
  have n:=short_norm hj w3
  subst hk
  exact ⟨_,rfl,⟨a,b,rfl⟩,n,short_ht n⟩
 have hk' : k ≤ 1000:=by omega
 obtain ⟨N,g,c0,c1,c2,c3,⟨ig,iu,iv⟩,cg,dx,dy⟩:=comb_all hk' ix iy nx ny
 obtain ⟨N', g', c0', c1', c2', c3', ⟨ig', iu', iv'⟩,cg', dy', dx'⟩:=comb_all hk' iy ix ny nx
 have nt:nsm k (x.mul (Cx.ofInt (0:Int) (1:Int))):=by unfold nsm; rw [norm_turn]; exact nx
 have it:isI (x.mul (Cx.ofInt (0:Int) (1:Int))):=isI_mul ix ⟨0,1,rfl⟩
 obtain ⟨N2,g2,c02,c12,c22,c32,⟨ig2,iu2,iv2⟩,cg2,dt2,dy2⟩:=comb_all hk' it iy nt ny
 have dx2:dv g2.1 x:=by rw [turn_back x]; exact dv_mul dt2 (isI_unit 3)
 have s1:fst1 g'.1 = fst1 g.1:=fst_same (by rw [cg]; exact dv_add (dv_mul dx' iu) (dv_mul dy' iv)) (by rw [cg']; exact dv_add (dv_mul dy iu') (dv_mul dx iv'))
 have dt:dv g.1 (x.mul (Cx.ofInt (0:Int) (1:Int))):=by rw [cmul_comm]; exact dv_mul dx ⟨0,1,rfl⟩
 have s2:fst1 g2.1 = fst1 g.1:=fst_same (by rw [cg]; exact dv_add (dv_mul dx2 iu) (dv_mul dy2 iv)) (by rw [cg2]; exact dv_add (dv_mul dt iu2) (dv_mul dy iv2))
 have at1:=hc_mul x (Cx.ofInt (0:Int) (1:Int))
 have ai:ht (Cx.ofInt (0:Int) (1:Int)).re ≤ 2 ∧ ht (Cx.ofInt (0:Int) (1:Int)).im ≤ 2:=by decide +kernel
 have wt:gwhole (rg (x.mul (Cx.ofInt (0:Int) (1:Int)))) = true:=whole_of it ⟨by omega,by omega⟩
 have hcomb:CombIs x y (fst1 g.1) (g.2.1.mul (unitC (firstC g.1).toNat)) (g.2.2.mul (unitC (firstC g.1).toNat)):=.mk fun W=>hCombC x y wx wy c0 (unit_fits hk' _ c1) (unit_fits hk' _ c2) (unit_fits hk' _ c3)
 have hg1:GcdIs y x (fst1 g.1):=.mk fun W=>by rw [← s1]; exact hGcdC y x wy wx c0' (unit_fits hk' _ c1')
 have hg2:GcdIs (x.mul (Cx.ofInt (0:Int) (1:Int))) y (fst1 g.1):=.mk fun W=>by rw [← s2]; exact hGcdC _ y wt wy c02 (unit_fits hk' _ c12)
 have ht0:TurnIs x:=.mk fun W=>gaTurnY x (gfits_ht ⟨by omega,by omega⟩) (gfits_ht ⟨by omega,by omega⟩)
 have hd:((g.2.1.mul (unitC (firstC g.1).toNat)).mul x).add ((g.2.2.mul (unitC (firstC g.1).toNat)).mul y) = fst1 g.1:=by
  unfold fst1
  generalize unitC (firstC g.1).toNat = e
  rw [cg,cmul_comm (((g.2.1.mul x).add (g.2.2.mul y))) e,cmul_add,cmul_comm g.2.1 e,cmul_comm g.2.2 e,cmul_assoc,cmul_assoc]
 have b0:=ht_unit (firstC g.1).toNat
 have b1:=hc_mul g.1 (unitC (firstC g.1).toNat)
 have b2:=hc_mul g.2.1 (unitC (firstC g.1).toNat)
 have b3:=hc_mul g.2.2 (unitC (firstC g.1).toNat)
 have ad:ht (fst1 g.1).re ≤ 660 ∧ ht (fst1 g.1).im ≤ 660:=⟨by unfold fst1; omega,by unfold fst1; omega⟩
 have iu3:isI (g.2.1.mul (unitC (firstC g.1).toNat)):=isI_mul iu (isI_unit _)
 have iv3:isI (g.2.2.mul (unitC (firstC g.1).toNat)):=isI_mul iv (isI_unit _)
 have ddx:dv (fst1 g.1) x:=dv_trans (fst_dv g.1) dx
 have ddy:dv (fst1 g.1) y:=dv_trans (fst_dv g.1) dy
 have hfst:g.1.zero = false → pos1 (fst1 g.1):=fst_pos
 have hgz:(fst1 g.1).zero = false → g.1.zero = false:=fun h=>by
  cases e:g.1.zero with
  | false=>rfl
  | true=>rw [dv_of_zero e (dv_fst g.1)] at h; cases h
 generalize fst1 g.1 = d at *
 generalize g.2.1.mul (unitC (firstC g.1).toNat) = u at *
 generalize g.2.2.mul (unitC (firstC g.1).toNat) = v at *
 have m1:MulIs u x:=mul_is (by omega)
 have m2:MulIs v y:=mul_is (by omega)
 have a1:=hc_mul u x
 have a2:=hc_mul v y
 have m3:AddIs (u.mul x) (v.mul y):=add_is (by omega)
 have P12:d.zero = true → x.zero = true ∧ y.zero = true:=fun h=>⟨dv_of_zero h ddx,dv_of_zero h ddy⟩
 have P13:d.zero = false → (DvdIs d x ∧ DvdIs d y) ∧ (dvB d x = true ∧ dvB d y = true) ∧ (fmay (rf d.re) = true ∧ fmay (rf d.im) = true):=fun h =>
  ⟨⟨dvd_is (by omega) (by omega) h,dvd_is (by omega) (by omega) h⟩,⟨(dvB_iff (by omega) (by omega) h).2 ddx,(dvB_iff (by omega) (by omega) h).2 ddy⟩,may_of (by omega),may_of (by omega)⟩
 have P14:d.zero = false → 0 < (wsign (rw d.re.num)) ∧ 0 ≤ (wsign (rw d.im.num)):=fun h=>by
  obtain ⟨h1,h2⟩:=hfst (hgz h)
  have k1:=hi_num d.re
  have k2:=hi_num d.im
  rw [wsign_rw (werr_rw (by omega)),wsign_rw (werr_rw (by omega)),num_pos', num_nn']
  exact ⟨h1,h2⟩
 have P15:z.zero = false → DvdIs z x ∧ DvdIs z y ∧ DvdIs z d:=fun h=>⟨dvd_is (by omega) (by omega) h,dvd_is (by omega) (by omega) h,dvd_is (by omega) (by omega) h⟩
 have P16:z.zero = false → dvB z x = true → dvB z y = true → dvB z d = true:=fun h h1 h2=>by
  rw [dvB_iff (by omega) (by omega) h] at h1 h2 ⊢
  rw [← hd]
  exact dv_add (dv_mul h1 iu3) (dv_mul h2 iv3)
 cases hz:y.zero with
 | true=>exact lRest4 x y z hw wx wy wz hcomb m1 m2 m3 hd hg1 ht0 hg2 P12 P13 P14 P15 P16 hz
 | false =>
  obtain ⟨q,r,f1,f2,f3,f4,f5,f6,f7,f8⟩:=div_facts (by omega) ix iy nx ny hz wx wy
  have dz:d.zero = false:=by
   cases e:d.zero with
   | false=>rfl
   | true=>rw [(P12 e).2] at hz; cases hz
  exact lRest5 x y z hw wx wy wz hcomb m1 m2 m3 hd hg1 ht0 hg2 P12 P13 P14 P15 P16 hz dz f1 f2 f3 f4 f5 f6 f7 f8
end Go.Proofs.YtllohoibifcmdaaGreat
namespace Go.Proofs.YtllohoibifcmdaaGreat
open Go.ChangeShapes Go.WideShapes Go.ChangeAt Go.RowKit
theorem list2 {cs:List Value} (h:cs.length = 2):∃ a b,cs = [a,b]:=by
 match cs,h with
 | [a,b],_=>exact ⟨a,b,rfl⟩
theorem list4 {cs:List Value} (h:cs.length = 4):∃ a b c d,cs = [a,b,c,d]:=by
 match cs,h with
 | [a,b,c,d],_=>exact ⟨a,b,c,d,rfl⟩
theorem list8 {cs:List Value} (h:cs.length = 8):∃ a b c d e f g i,cs = [a,b,c,d,e,f,g,i]:=by
 match cs,h with
 | [a,b,c,d,e,f,g,i],_=>exact ⟨a,b,c,d,e,f,g,i,rfl⟩
section
variable {H:Type} {enc:TypeId × Value → H} {w:World} {base:Nat} {spare:Nat → Bool} {held:Bool}
theorem rd_whole {fuel:Nat} {cs:List Value} {x:DataW H × List MemPlace} (h:DataW.trod enc Tryz.prog w base spare held fuel 26 cs = some x):∃ r:RW,cs = (rwC r).toList:=by
 obtain ⟨y0,y1,n,_,hl,h0,h1⟩:=trod_struct2 Tryz.underlying26 h
 obtain ⟨b,e0,_⟩:=DataW.trod_bool Tryz.underlying4 h0
 obtain ⟨s,e1,_,_⟩:=DataW.trod_string Tryz.underlying9 h1
 rw [show Tryz.prog.cellsOf 26 = 2 by kernel_rfl] at hl
 rw [show Tryz.prog.cellsOf 4 = 1 by kernel_rfl] at e0
 rw [show Tryz.prog.cellsOf 9 = 1 by kernel_rfl] at e1
 obtain ⟨u,v,rfl⟩:=list2 hl
 simp only [List.drop_zero,List.take_succ_cons,List.take_zero,List.cons.injEq,and_true] at e0
 simp only [List.drop_succ_cons,List.drop_zero,List.take_succ_cons,List.take_zero,List.cons.injEq,and_true] at e1
 subst e0; subst e1
 exact ⟨⟨b,s⟩,rfl⟩
theorem rd_frac {fuel:Nat} {cs:List Value} {x:DataW H × List MemPlace} (h:DataW.trod enc Tryz.prog w base spare held fuel 28 cs = some x):∃ r:RF,cs = (rfC r).toList:=by
 obtain ⟨y0,y1,n,_,hl,h0,h1⟩:=trod_struct2 Tryz.underlying28 h
 obtain ⟨a,e0⟩:=rd_whole h0
 obtain ⟨b,e1⟩:=rd_whole h1
 rw [show Tryz.prog.cellsOf 28 = 4 by kernel_rfl] at hl
 rw [show Tryz.prog.cellsOf 26 = 2 by kernel_rfl] at e0 e1
 obtain ⟨u0,u1,u2,u3,rfl⟩:=list4 hl
 simp only [List.drop_zero,List.drop_succ_cons,List.take_succ_cons,List.take_zero,List.cons.injEq,and_true] at e0 e1
 obtain ⟨rfl,rfl⟩:=e0
 obtain ⟨rfl,rfl⟩:=e1
 exact ⟨⟨a,b⟩,rfl⟩
theorem rd_gauss {fuel:Nat} {cs:List Value} {x:DataW H × List MemPlace} (h:DataW.trod enc Tryz.prog w base spare held fuel 30 cs = some x):∃ r:RG,cs = (rgC r).toList:=by
 obtain ⟨y0,y1,n,_,hl,h0,h1⟩:=trod_struct2 Tryz.underlying30 h
 obtain ⟨a,e0⟩:=rd_frac h0
 obtain ⟨b,e1⟩:=rd_frac h1
 rw [show Tryz.prog.cellsOf 30 = 8 by kernel_rfl] at hl
 rw [show Tryz.prog.cellsOf 28 = 4 by kernel_rfl] at e0 e1
 obtain ⟨u0,u1,u2,u3,u4,u5,u6,u7,rfl⟩:=list8 hl
 simp only [List.drop_zero,List.drop_succ_cons,List.take_succ_cons,List.take_zero,List.cons.injEq,and_true] at e0 e1
 obtain ⟨rfl,rfl,rfl,rfl⟩:=e0
 obtain ⟨rfl,rfl,rfl,rfl⟩:=e1
 exact ⟨⟨a,b⟩,rfl⟩
set_option maxRecDepth 100000 in
theorem open_gauss {r:Reach} {b0:Nat} {v:Value} {d:DataW H} {p:List MemPlace} (hv:Value.okWide Tryz.prog w r b0 30 v) (h:DataW.Trod enc Tryz.prog w base spare held 30 v d p):∃ r:RG,v = rgV r:=by
 obtain ⟨cs,rfl,_⟩:=okWide_struct Tryz.underlying30 hv
 obtain ⟨fuel,hf⟩:=h
 obtain ⟨r,e⟩:=rd_gauss hf
 refine ⟨r,?_⟩
 have e2:cs = rgC r:=Array.ext' e
 rw [e2]
end
instance:Inhabited RG:=⟨rg0⟩
section
variable {H:Type} {enc:TypeId × Value → H} {w:World} {base:Nat} {spare:Nat → Bool} {held:Bool}
end
end Go.Proofs.YtllohoibifcmdaaGreat
namespace Go.Proofs.YtllohoibifcmdaaGreat
open Go.ChangeShapes Go.WideShapes Go.ChangeAt Go.RowKit Go.WideElems
theorem law_own:ownKnob Tryz.prog.godebug = none:=by kernel_rfl
theorem law_laid:laidOutB Tryz.prog = true:=by kernel_rfl
section
variable {H:Type} {enc:TypeId × Value → H}
theorem trodAll_stays {W W' : World} {sp:Nat → Bool}:∀ {ts:List TypeId} {vs:List Value} {ds:List (DataW H)} {ps:List MemPlace},(∀ t ∈ ts,Tryz.prog.readableRec t = true ∧ t < Tryz.prog.types.size) →
  DataW.TrodAll enc Tryz.prog W 0 (fun _=>true) true ts vs ds ps → (∀ p ∈ ps,W.sameAt W' p) → (∀ p ∈ ps,sp p.block = true) → DataW.TrodAll enc Tryz.prog W' 0 sp true ts vs ds ps:=by
 intro ts
 induction ts with
 | nil =>
  intro vs ds ps _ h _ _
  obtain ⟨rfl,rfl,rfl⟩:=trodAll_nil h
  exact trodAll_mk0
 | cons t ts ih =>
  intro vs ds ps ht h hs hb
  obtain ⟨v,vs', d,ds', p,p', rfl,rfl,rfl,h0,h1⟩:=trodAll_cons h
  obtain ⟨h2,h3⟩:=ht t (by simp)
  exact trodAll_cons_mk (Trod_stays law_laid h2 h3 h0 (fun q hq=>hs q (by simp [hq])) (fun q hq=>hb q (by simp [hq]))) (ih (fun t ht' => ht t (by simp [ht'])) h1 (fun q hq=>hs q (by simp [hq])) (fun q hq=>hb q (by simp [hq])))
set_option maxRecDepth 100000 in
theorem law_post {f:Func} {s:ChangeSpec} {fresh handsOn again:Bool} {W W' : World} {args:Array Value} {ds gs:List (DataW H)} {before:List MemPlace} (hW:DataW.Whole enc Tryz.prog f.params.toList s.vars false W args.toList ds gs before)
  (hv:s.vars = []) (hfn:s.fn H ds = { results:=[.lit (.bool true)],args:=ds }) (hr:f.resultTypes = #[4]) (hp:f.params.toList.all (fun t=>Tryz.prog.readableRec t && decide (t < Tryz.prog.types.size)) = true) (hb:Below W.heap.size W W') :
  s.post enc Tryz.prog f false fresh handsOn again W args (.bool true) W' := by
 have hlt:∀ p ∈ before,p.block < W.heap.size:=fun p hq=>hW.lt p hq
 have hW' := hW
 obtain ⟨p,q,hA,hV,rfl,hfz,hnd⟩:=hW
 rw [hv] at hV
 obtain ⟨rfl,rfl⟩:=trodVars_none hV
 have hpar:∀ t ∈ f.params.toList,Tryz.prog.readableRec t = true ∧ t < Tryz.prog.types.size:=fun t ht=>by
  have:=List.all_eq_true.1 hp t ht
  simpa using this
 have hargs:∀ sp:Nat → Bool,(∀ x ∈ p ++ [],sp x.block = true) → DataW.TrodAll enc Tryz.prog W' 0 sp true f.params.toList args.toList ds p:=fun sp hs =>
  trodAll_stays hpar hA (fun x hx=>hb.same (hlt x (by simp [hx]))) (fun x hx=>hs x (by simp [hx]))
 have hres:∀ (b:Nat) (sp:Nat → Bool) (hd:Bool),DataW.TrodAll enc Tryz.prog W' b sp hd f.resultTypes.toList (Value.resultList f.resultTypes.size (.bool true)) [.lit (.bool true)] []:=fun _ _ _=>by
  rw [hr]
  exact trodAll_cons_mk (shut_bool Tryz.underlying4 _) trodAll_mk0
 have hold:∀ x ∈ p ++ [],(fun b=>decide (b < W.heap.size)) x.block = true:=fun x hx=>by simpa using hlt x hx
 have hfn' : s.fn H (ds ++ []) = { results:=[.lit (.bool true)],args:=ds }:=by rw [List.append_nil]; exact hfn
 refine ⟨ds,[],p ++ [],[],p,[],hW', by rw [hfn']; exact hres _ _ _,by rw [hfn']; exact hargs _ hold,by rw [hv,hfn']; rfl,World.keptBut_mono (fun x hx=>⟨hx,?_⟩) (hb.frame (· ∈ p ++ [])),fun _=>?_⟩
 ·simpa using hx
 ·refine ⟨ok_one hr rfl (okWide_bool_mk Tryz.underlying4 _),_,[],([] ++ p) ++ [],⟨[] ++ p,[],trodAll_append (hargs _ (fun _ _=>rfl)) (hres _ _ _),by rw [hv]; rfl,rfl,?_,?_⟩,?_⟩
  ·intro b off hx
   have hin:MemPlace.cell b off ∈ p ++ []:=by simpa using hx
   rw [hb.frozen (hlt _ hin)]
   exact hfz b off hin
  ·intro ha
   have:=hnd ha
   simpa using this
  ·intro x hx _
   simpa using hx
end
end Go.Proofs.YtllohoibifcmdaaGreat
namespace Go.Proofs.YtllohoibifcmdaaGreat.hzRests
open Go.ChangeShapes Go.WideShapes Go.ChangeAt Go.RowKit
set_option maxRecDepth 100000 in
theorem contract (H:Type) (enc:TypeId × Value → H) (W:World) (base:Nat) (args:Array Value) (ds gs:List (DataW H)) (before:List MemPlace)
  (hval:∀ (j:Nat) t v,Tryz.f6.params[j]? = some t → args[j]? = some v → Value.okWide Tryz.prog W .any base t v)
  (hW:DataW.Whole enc Tryz.prog Tryz.f6.params.toList Rows.hurwitzRestsSpec.vars false W args.toList ds gs before) :
  Calls Tryz.prog 6 args W fun e W' => ∃ v,e = .returned v ∧ Rows.hurwitzRestsSpec.post enc Tryz.prog Tryz.f6 false true false false W args v W' := by
 have hW' := hW
 obtain ⟨p,q,hA,hV,rfl,hfz,hnd⟩:=hW
 rw [Tryz.params6] at hA hval
 obtain ⟨v0,vs0,d0,ds0,p0,q0,hargs,rfl,rfl,h0,r0⟩:=trodAll_cons hA
 obtain ⟨v1,vs1,d1,ds1,p1,q1,rfl,rfl,rfl,h1,r1⟩:=trodAll_cons r0
 obtain ⟨v2,vs2,d2,ds2,p2,q2,rfl,rfl,rfl,h2,r2⟩:=trodAll_cons r1
 obtain ⟨rfl,rfl,rfl⟩:=trodAll_nil r2
 obtain rfl:args = #[v0,v1,v2]:=by cases args; simp_all
 obtain ⟨rfl,rfl⟩:=trodVars_none hV
 obtain ⟨r,rfl⟩:=open_gauss (hval 0 _ v0 rfl rfl) h0
 obtain ⟨q,rfl⟩:=open_gauss (hval 1 _ v1 rfl rfl) h1
 obtain ⟨t,rfl⟩:=open_gauss (hval 2 _ v2 rfl rfl) h2
 refine (lRests r q t).mono fun e W' h=>?_
 obtain ⟨h1,h2⟩:=h.is
 exact ⟨_,h1,law_post hW' rfl rfl rfl (by kernel_rfl) h2⟩
set_option maxRecDepth 100000 in
theorem lifted (os:Os) (started:os.Started) (H:Type) (enc:TypeId × Value → H) :
  ReturnsInHanded {} Tryz.checked os 6 .any (Rows.hurwitzRestsSpec.pre6 enc Tryz.prog Tryz.f6 Rows.hurwitzRestsRow.domain false) (Rows.hurwitzRestsSpec.post enc Tryz.prog Tryz.f6 false true false false):=by
 refine returnsInHanded_of_change (C:=Tryz.checked) law_own started (by kernel_rfl) Tryz.func6
  (ChangeSpec.witness6 (enc:=enc) (C:=Tryz.checked) false ⟨#[],#[.agg #[.bool false,.string ⟨#[]⟩,.bool false,.string ⟨#[]⟩,.bool false,.string ⟨#[]⟩,.bool false,.string ⟨#[]⟩],.agg #[.bool false,.string ⟨#[]⟩,.bool false,.string ⟨#[]⟩,.bool false,.string ⟨#[]⟩,.bool false,.string ⟨#[]⟩],.agg #[.bool false,.string ⟨#[]⟩,.bool false,.string ⟨#[]⟩,.bool false,.string ⟨#[]⟩,.bool false,.string ⟨#[]⟩]],[]⟩ 8 (by kernel_rfl) (by kernel_rfl) (by kernel_rfl) (by kernel_rfl)) ?_
 intro W base args ds gs before hval hW _ _
 exact contract H enc W base args ds gs before hval hW
theorem over:Rows.HurwitzRestsSaid :=
 OpenClaim.holds_of_wide 6 Tryz.f6 rfl rfl rfl rfl rfl rfl rfl ⟨rfl,rfl,rfl,rfl,rfl⟩ rfl rfl rfl rfl rfl (by kernel_rfl) Tryz.func6 (by kernel_rfl)
  (of_decide_eq_true (by kernel_rfl)) (by unfold Func.isWrapper; first | (rw [if_pos (by decide +kernel)]; kernel_rfl) | (rw [if_neg (by decide +kernel)]; exact ⟨rfl,rfl⟩))
  (fun os started H enc _=>lifted os started H enc)
end Go.Proofs.YtllohoibifcmdaaGreat.hzRests
namespace Go.Proofs.YtllohoibifcmdaaGreat
theorem hurwitzRests_proved:Rows.HurwitzRestsSaid:=hzRests.over
end Go.Proofs.YtllohoibifcmdaaGreat
