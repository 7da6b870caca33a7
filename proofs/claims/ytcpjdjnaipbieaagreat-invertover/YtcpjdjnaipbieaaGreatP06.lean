import Derived.Test.YtcpjdjnaipbieaaGreatP05
set_option linter.unusedVariables false
set_option linter.unusedSimpArgs false
namespace Go.Proofs.YtcpjdjnaipbieaaGreat
open Go.RowKit Rgn
theorem gerr_1 {x:Cx} (h:((gerr x) != 0) = true):gfits (rg x) = false:=by
 unfold gerr at h
 cases e:gfits (rg x) with
 | false=>rfl
 | true=>rw [if_pos e] at h; exact absurd h (by decide)
theorem gerr_0 {x:Cx} (h:((gerr x) != 0) = false):gfits (rg x) = true:=by
 unfold gerr at h
 cases e:gfits (rg x) with
 | true=>rfl
 | false=>rw [if_neg (by rw [e]; decide)] at h; exact absurd h (by decide)
theorem cifits_no {c:Ci} (h:((ferr c.a) != 0) = true ∨ ((gerr c.b) != 0) = true ∨ ((ferr c.c) != 0) = true):cifits (rci c) = false:=by
 show (fits (rf c.a) && gfits (rg c.b) && fits (rf c.c)) = false
 rcases h with h | h | h
 ·rw [ferr_1 h]; simp
 ·rw [gerr_1 h]; simp
 ·rw [ferr_1 h]; simp
theorem ccut_no {c:Ci} (h:((ferr c.a) != 0) = true ∨ ((gerr c.b) != 0) = true ∨ ((ferr c.c) != 0) = true):Value.tuple #[.agg zCi,.int .i64 4] = .tuple #[rciV (cicut c),.int .i64 (cierr c)]:=by
 unfold cicut cierr
 rw [if_neg (by rw [cifits_no h]; decide),if_neg (by rw [cifits_no h]; decide)]
theorem ccut_yes {c:Ci} (h1:((ferr c.a) != 0) = false) (h2:((gerr c.b) != 0) = false) (h3:((ferr c.c) != 0) = false):Value.tuple #[.agg #[.bool (fcut c.a).a.n,.string (fcut c.a).a.s,.bool (fcut c.a).b.n,.string (fcut c.a).b.s,.bool (gcut c.b).re.a.n,.string (gcut c.b).re.a.s,.bool (gcut c.b).re.b.n,.string (gcut c.b).re.b.s,.bool (gcut c.b).im.a.n,.string (gcut c.b).im.a.s,.bool (gcut c.b).im.b.n,.string (gcut c.b).im.b.s,.bool (fcut c.c).a.n,.string (fcut c.c).a.s,.bool (fcut c.c).b.n,.string (fcut c.c).b.s],.int .i64 0] = .tuple #[rciV (cicut c),.int .i64 (cierr c)]:=by
 have e:cifits (rci c) = true:=by
  show (fits (rf c.a) && gfits (rg c.b) && fits (rf c.c)) = true
  rw [ferr_0 h1,gerr_0 h2,ferr_0 h3]; rfl
 unfold cicut cierr fcut gcut
 rw [if_pos e,if_pos e,if_pos (ferr_0 h1),if_pos (gerr_0 h2),if_pos (ferr_0 h3)]
theorem undo_1 {m:Mb} (h:m.t = true):(Mb.mk m.d.conj m.b.neg.conj m.c.neg.conj m.a.conj m.t).nrm = m.undo:=by unfold Mb.undo Mb.cjM cjC; rw [if_pos h,if_pos h,if_pos h,if_pos h]
theorem undo_0 {m:Mb} (h:m.t = false):(Mb.mk m.d m.b.neg m.c.neg m.a m.t).nrm = m.undo:=by
 have h' : ¬ m.t = true:=by rw [h]; decide
 unfold Mb.undo Mb.cjM cjC; rw [if_neg h', if_neg h', if_neg h', if_neg h']
theorem zero_eq {a b:Cx} (h:a = b) (hb:b.zero = false):a.zero = false:=h ▸ hb
theorem zero_conj (z:Cx):z.conj.zero = z.zero:=by
 unfold Cx.zero
 have e:decide (-z.im = 0) = decide (z.im = 0):=decide_eq_decide.2 ⟨fun h=>by grind,fun h=>by grind⟩
 show (decide (z.re = 0) && decide (-z.im = 0)) = _
 rw [e]
theorem det_undo (m:Mb):(Mb.mk m.d m.b.neg m.c.neg m.a m.t).det = m.det:=by
 refine Cx.ext' ?_ ?_
 ·show (m.d.re * m.a.re - m.d.im * m.a.im) - (-m.b.re * -m.c.re - -m.b.im * -m.c.im) = (m.a.re * m.d.re - m.a.im * m.d.im) - (m.b.re * m.c.re - m.b.im * m.c.im)
  grind
 ·show (m.d.re * m.a.im + m.d.im * m.a.re) - (-m.b.re * -m.c.im + -m.b.im * -m.c.re) = (m.a.re * m.d.im + m.a.im * m.d.re) - (m.b.re * m.c.im + m.b.im * m.c.re)
  grind
theorem det_undoC (m:Mb):(Mb.mk m.d.conj m.b.neg.conj m.c.neg.conj m.a.conj m.t).det = m.det.conj:=by
 refine Cx.ext' ?_ ?_
 ·show (m.d.re * m.a.re - -m.d.im * -m.a.im) - (-m.b.re * -m.c.re - - -m.b.im * - -m.c.im) = (m.a.re * m.d.re - m.a.im * m.d.im) - (m.b.re * m.c.re - m.b.im * m.c.im)
  grind
 ·show (m.d.re * -m.a.im + -m.d.im * m.a.re) - (-m.b.re * - -m.c.im + - -m.b.im * -m.c.re) = -((m.a.re * m.d.im + m.a.im * m.d.re) - (m.b.re * m.c.im + m.b.im * m.c.re))
  grind
theorem undo_p0 {m:Mb} (p:m.det.zero = false) (h:m.t = false):(Mb.mk m.d m.b.neg m.c.neg m.a m.t).piv.zero = false:=det_piv (zero_eq (det_undo m) p)
theorem undo_p1 {m:Mb} (p:m.det.zero = false) (h:m.t = true):(Mb.mk m.d.conj m.b.neg.conj m.c.neg.conj m.a.conj m.t).piv.zero = false:=det_piv (zero_eq (det_undoC m) (by rw [zero_conj]; exact p))
theorem pcut_inf {p:Pn} (h:p.inf = true):Value.tuple #[.agg #[.bool true,.bool false,.string ⟨#[]⟩,.bool false,.string ⟨#[]⟩,.bool false,.string ⟨#[]⟩,.bool false,.string ⟨#[]⟩],.int .i64 0] = .tuple #[rpnV (pncut p),.int .i64 (pnerr p)]:=by
 have e:pnfits p = true:=by unfold pnfits; rw [h]; rfl
 unfold pncut pnerr pnR
 rw [if_pos e,if_pos e,if_pos h]
theorem pcut_num {p:Pn} (h:p.inf = false):Value.tuple #[.agg #[.bool false,.bool (gcut p.z).re.a.n,.string (gcut p.z).re.a.s,.bool (gcut p.z).re.b.n,.string (gcut p.z).re.b.s,.bool (gcut p.z).im.a.n,.string (gcut p.z).im.a.s,.bool (gcut p.z).im.b.n,.string (gcut p.z).im.b.s],.int .i64 (gerr p.z)] = .tuple #[rpnV (pncut p),.int .i64 (pnerr p)]:=by
 unfold pncut pnerr pnR gcut gerr pnfits
 rw [h]
 cases e:gfits (rg p.z) with
 | true=>simp
 | false=>simp
def Ci.dot (c d:Ci):Rat:=(c.a * d.c + d.a * c.c) * Rat.divInt (1:Int) (2:Int) - (c.b.mul d.b.conj).re
@[reducible] def Ci.times (c:Ci) (x:Rat):Ci:=⟨c.a * x,c.b.scale x,c.c * x⟩
def Ci.out (c:Ci):Ci:=⟨-c.a,c.b.neg,-c.c⟩
@[reducible] def Ci.rim (c:Ci):Ci:=⟨c.a,c.b.conj.neg,c.c⟩
def Ci.touch (c d:Ci):Bool:=decide (c.dot d = 1) && !decide (c = d.out)
theorem neg_one_mul (x:Rat):x * Rat.divInt (-1:Int) (1:Int) = -x:=by
 rw [divInt_one]
 show x * ((-1:Int):Rat) = -x
 have:(((-1:Int)):Rat) = -1:=rfl
 rw [this]; grind
theorem put_n1 {m:Mb} {p:Pn} (h:(!p.inf) = true) (ht:m.t = true):m.put p = ((m.a.mul p.z.conj).add m.b,(m.c.mul p.z.conj).add m.d):=by
 have h' : ¬ p.inf = true:=by cases e:p.inf <;> simp_all
 unfold Mb.put cjC
 rw [if_neg h', if_pos ht]
theorem put_n0 {m:Mb} {p:Pn} (h:(!p.inf) = true) (ht:m.t = false):m.put p = ((m.a.mul p.z).add m.b,(m.c.mul p.z).add m.d):=by
 have h' : ¬ p.inf = true:=by cases e:p.inf <;> simp_all
 unfold Mb.put cjC
 rw [if_neg h', if_neg (by rw [ht]; decide)]
theorem put_i {m:Mb} {p:Pn} (h:(!p.inf) = false):m.put p = (m.a,m.c):=by
 have h' : p.inf = true:=by cases e:p.inf <;> simp_all
 unfold Mb.put
 rw [if_pos h']
theorem send_T {m:Mb} {p:Pn} {a b:Cx} (e:m.put p = (a,b)) (h:b.zero = true):Pn.mk true ⟨0,0⟩ = m.send p:=by unfold Mb.send; rw [e,if_pos h]
theorem send_F {m:Mb} {p:Pn} {a b:Cx} (e:m.put p = (a,b)) (h:b.zero = false):Pn.mk false (a.div b) = m.send p:=by unfold Mb.send; rw [e,if_neg (by rw [h]; decide)]
theorem send_n1T {m:Mb} {p:Pn} (h:(!p.inf) = true) (ht:m.t = true) (hz:((m.c.mul p.z.conj).add m.d).zero = true):Pn.mk true ⟨0,0⟩ = m.send p:=send_T (put_n1 h ht) hz
theorem send_n1F {m:Mb} {p:Pn} (h:(!p.inf) = true) (ht:m.t = true) (hz:((m.c.mul p.z.conj).add m.d).zero = false):Pn.mk false (((m.a.mul p.z.conj).add m.b).div ((m.c.mul p.z.conj).add m.d)) = m.send p:=send_F (put_n1 h ht) hz
theorem send_n0T {m:Mb} {p:Pn} (h:(!p.inf) = true) (ht:m.t = false) (hz:((m.c.mul p.z).add m.d).zero = true):Pn.mk true ⟨0,0⟩ = m.send p:=send_T (put_n0 h ht) hz
theorem send_n0F {m:Mb} {p:Pn} (h:(!p.inf) = true) (ht:m.t = false) (hz:((m.c.mul p.z).add m.d).zero = false):Pn.mk false (((m.a.mul p.z).add m.b).div ((m.c.mul p.z).add m.d)) = m.send p:=send_F (put_n0 h ht) hz
theorem send_iT {m:Mb} {p:Pn} (h:(!p.inf) = false) (hz:m.c.zero = true):Pn.mk true ⟨0,0⟩ = m.send p:=send_T (put_i h) hz
theorem send_iF {m:Mb} {p:Pn} (h:(!p.inf) = false) (hz:m.c.zero = false):Pn.mk false (m.a.div m.c) = m.send p:=send_F (put_i h) hz
end Go.Proofs.YtcpjdjnaipbieaaGreat
namespace Go.Proofs.YtcpjdjnaipbieaaGreat
open Go.RowKit Rgn Eng
set_option maxHeartbeats 8000000
set_option maxRecDepth 100000
variable {S:Nat → Prop} {W:World}
theorem eSame {v0 v1:Value} (x:Cx) (y:Cx) (t0:(NumP x).p S v0 W) (t1:(NumP y).p S v1 W) (p0:ht x.re + ht x.im + ht y.re + ht y.im ≤ 17179869184):Calls Tryz.prog 179 #[v0,v1] W (RetV (.bool ((x.sub y).zero)) W):=by
 have h1:=hc_sub x y
 refine Run.goP (S:=S) ((Pack.nil.s spNum t0).s spNum t1) Tryz.func179 rfl ?_
 refine Run.cR spNum (fun _ _ _ H=>eSub x y (NumP.mk (H.f 0) (H.f 1)) (NumP.mk (H.f 2) (H.f 3)) p0) ?_
 refine Run.cV [.bool ((x.sub y).zero)] kb (fun _ _ _ H=>eZero (x.sub y) (NumP.mk (H.f 4) (H.f 5))) ?_
 exact Run.rV rfl
theorem rgSame {v0 v1:Value} (c:Ci) (d:Ci) (t0:(RingP c).p S v0 W) (t1:(RingP d).p S v1 W) (p0:ht c.a + ht c.b.re + ht c.b.im + ht c.c + (ht d.a + ht d.b.re + ht d.b.im + ht d.c) ≤ 1073741824):Calls Tryz.prog 241 #[v0,v1] W (RetV (.bool (decide (c = d))) W):=by
 refine Run.goP (S:=S) ((Pack.nil.s spRing t0).s spRing t1) Tryz.func241 rfl ?_
 refine Run.cV [.int .i64 (icmp (c.a.num * (d.a.den:Int)) (d.a.num * (c.a.den:Int)))] kb (fun _ _ _ H=>qCmp c.a d.a (H.f 0) (H.f 4) (by first | omega | (dsimp only at *; omega))) ?_
 refine Run.ic (icmp (c.a.num * (d.a.den:Int)) (d.a.num * (c.a.den:Int))) 0 ((icmp (c.a.num * (d.a.den:Int)) (d.a.num * (c.a.den:Int))) == 0) ?_
 refine (Bool.eq_false_or_eq_true ((icmp (c.a.num * (d.a.den:Int)) (d.a.num * (c.a.den:Int))) == 0)).elim (fun c1=>?_) (fun c1=>?_)
 · refine Run.kn c1 ?_
   refine Run.cV [.bool ((c.b.sub d.b).zero)] kb (fun _ _ _ H=>eSame c.b d.b (NumP.mk (H.f 1) (H.f 2)) (NumP.mk (H.f 5) (H.f 6)) (by first | omega | (dsimp only at *; omega))) ?_
   refine (Bool.eq_false_or_eq_true ((c.b.sub d.b).zero)).elim (fun c2=>?_) (fun c2=>?_)
   · refine Run.kn c2 ?_
     refine Run.cV [.int .i64 (icmp (c.c.num * (d.c.den:Int)) (d.c.num * (c.c.den:Int)))] kb (fun _ _ _ H=>qCmp c.c d.c (H.f 3) (H.f 7) (by first | omega | (dsimp only at *; omega))) ?_
     refine Run.ic (icmp (c.c.num * (d.c.den:Int)) (d.c.num * (c.c.den:Int))) 0 ((icmp (c.c.num * (d.c.den:Int)) (d.c.num * (c.c.den:Int))) == 0) ?_
     exact Run.rV (V' := .bool ((icmp (c.c.num * (d.c.den:Int)) (d.c.num * (c.c.den:Int))) == 0)) (by rw [← sm_dec]; unfold Ci.sm; rw [c1,c2]; rfl)
   · refine Run.kn c2 ?_
     exact Run.rV (V' := .bool false) (by rw [← sm_dec]; unfold Ci.sm; rw [c1,c2]; rfl)
 · refine Run.kn c1 ?_
   exact Run.rV (V' := .bool false) (by rw [← sm_dec]; unfold Ci.sm; rw [c1]; rfl)
end Go.Proofs.YtcpjdjnaipbieaaGreat
namespace Go.Proofs.YtcpjdjnaipbieaaGreat
open Go.RowKit Rgn Eng
set_option maxHeartbeats 8000000
set_option maxRecDepth 100000
variable {S:Nat → Prop} {W:World}
theorem rgTold {v0:Value} (c:Ci) (t0:(RingP c).p S v0 W) (p0:ht c.a + ht c.b.re + ht c.b.im + ht c.c ≤ 1073741824) (p1:c.flat = false):Calls Tryz.prog 142 #[v0] W (RetV (.tuple #[rciV (cicut c.nrm),.int .i64 (cierr c.nrm)]) W):=by
 have h1:=nrm_ht c
 have h2:=piv_ht c
 unfold Ci.hh Cx.hh at h2
 refine Run.goP (S:=S) (Pack.nil.s spRing t0) Tryz.func142 rfl ?_
 refine Run.cR spRing (fun _ _ _ H=>rgNorm c (RingP.mk (H.f 0) (H.f 1) (H.f 2) (H.f 3)) p0 p1) ?_
 refine Run.cV ((rfC (fcut c.nrm.a)).toList ++ [.int .i64 (ferr c.nrm.a)]) (.tup [.agg (ks 0 4),.o (.k 4)]) (fun _ _ _ H=>eFrac c.nrm.a (RatP.n (H.f 4)) (by first | omega | (dsimp only at *; omega) | exact p1)) ?_
 refine Run.cV ((rgC (gcut c.nrm.b)).toList ++ [.int .i64 (gerr c.nrm.b)]) (.tup [.agg (ks 0 8),.o (.k 8)]) (fun _ _ _ H=>eTold c.nrm.b (NumP.mk (H.f 5) (H.f 6)) (by first | omega | (dsimp only at *; omega) | exact p1)) ?_
 refine Run.cV ((rfC (fcut c.nrm.c)).toList ++ [.int .i64 (ferr c.nrm.c)]) (.tup [.agg (ks 0 4),.o (.k 4)]) (fun _ _ _ H=>eFrac c.nrm.c (RatP.n (H.f 7)) (by first | omega | (dsimp only at *; omega) | exact p1)) ?_
 refine Run.ic (ferr c.nrm.a) 0 ((ferr c.nrm.a) != 0) ?_
 refine (Bool.eq_false_or_eq_true ((ferr c.nrm.a) != 0)).elim (fun c1=>?_) (fun c1=>?_)
 · refine Run.kn c1 ?_
   exact Run.rV (ccut_no (.inl c1))
 · refine Run.kn c1 ?_
   refine Run.ic (gerr c.nrm.b) 0 ((gerr c.nrm.b) != 0) ?_
   refine (Bool.eq_false_or_eq_true ((gerr c.nrm.b) != 0)).elim (fun c2=>?_) (fun c2=>?_)
   · refine Run.kn c2 ?_
     exact Run.rV (ccut_no (.inr (.inl c2)))
   · refine Run.kn c2 ?_
     refine Run.ic (ferr c.nrm.c) 0 ((ferr c.nrm.c) != 0) ?_
     refine (Bool.eq_false_or_eq_true ((ferr c.nrm.c) != 0)).elim (fun c3=>?_) (fun c3=>?_)
     · refine Run.kn c3 ?_
       exact Run.rV (ccut_no (.inr (.inr c3)))
     · refine Run.kn c3 ?_
       exact Run.rV (ccut_yes c1 c2 c3)
theorem mtDet {v0:Value} (m:Mb) (t0:(MatP m).p S v0 W) (p0:ht m.a.re + ht m.a.im + ht m.b.re + ht m.b.im + ht m.c.re + ht m.c.im + ht m.d.re + ht m.d.im ≤ 1073741824):Calls Tryz.prog 219 #[v0] W (Ret (NumP m.det) S W):=by
 have h1:=hc_mul m.a m.d
 have h2:=hc_mul m.b m.c
 refine Run.goP (S:=S) (Pack.nil.s spMat t0) Tryz.func219 rfl ?_
 refine Run.dr ?_
 refine RunD.cR spNum (fun _ _ _ H=>eNMul m.a m.d (NumP.mk (H.f 0) (H.f 1)) (NumP.mk (H.f 6) (H.f 7)) (by first | omega | (dsimp only at *; omega))) ?_
 refine RunD.cR spNum (fun _ _ _ H=>eNMul m.b m.c (NumP.mk (H.f 2) (H.f 3)) (NumP.mk (H.f 4) (H.f 5)) (by first | omega | (dsimp only at *; omega))) ?_
 refine RunD.cR spNum (fun _ _ _ H=>eSub (m.a.mul m.d) (m.b.mul m.c) (NumP.mk (H.f 8) (H.f 9)) (NumP.mk (H.f 10) (H.f 11)) (by first | omega | (dsimp only at *; omega))) ?_
 refine RunD.en ?_
 exact Run.rR (fun _ _ _ H=>NumP.mk (H.f 12) (H.f 13))
theorem mtNorm {v0:Value} (m:Mb) (t0:(MatP m).p S v0 W) (p0:ht m.a.re + ht m.a.im + ht m.b.re + ht m.b.im + ht m.c.re + ht m.c.im + ht m.d.re + ht m.d.im ≤ 536870912) (p1:m.piv.zero = false):Calls Tryz.prog 239 #[v0] W (Ret (MatP m.nrm) S W):=by
 refine Run.goP (S:=S) (Pack.nil.s spMat t0) Tryz.func239 rfl ?_
 refine Run.cV [.bool m.c.zero] kb (fun _ _ _ H=>eZero m.c (NumP.mk (H.f 4) (H.f 5))) ?_
 refine (Bool.eq_false_or_eq_true (m.c.zero)).elim (fun c1=>?_) (fun c1=>?_)
 · refine Run.kn c1 ?_
   refine Run.dr ?_
   refine RunD.cR spNum (fun _ _ _ H=>eDiv m.a m.d (NumP.mk (H.f 0) (H.f 1)) (NumP.mk (H.f 6) (H.f 7)) (by first | omega | (dsimp only at *; omega) | exact mnz_1 p1 c1 | exact mnz_0 c1) (by first | omega | (dsimp only at *; omega) | exact mnz_1 p1 c1 | exact mnz_0 c1)) ?_
   refine RunD.cR spNum (fun _ _ _ H=>eDiv m.b m.d (NumP.mk (H.f 2) (H.f 3)) (NumP.mk (H.f 6) (H.f 7)) (by first | omega | (dsimp only at *; omega) | exact mnz_1 p1 c1 | exact mnz_0 c1) (by first | omega | (dsimp only at *; omega) | exact mnz_1 p1 c1 | exact mnz_0 c1)) ?_
   refine RunD.cR spNum (fun _ _ _ H=>eDiv m.c m.d (NumP.mk (H.f 4) (H.f 5)) (NumP.mk (H.f 6) (H.f 7)) (by first | omega | (dsimp only at *; omega) | exact mnz_1 p1 c1 | exact mnz_0 c1) (by first | omega | (dsimp only at *; omega) | exact mnz_1 p1 c1 | exact mnz_0 c1)) ?_
   refine RunD.cR spNum (fun _ _ _ H=>eDiv m.d m.d (NumP.mk (H.f 6) (H.f 7)) (NumP.mk (H.f 6) (H.f 7)) (by first | omega | (dsimp only at *; omega) | exact mnz_1 p1 c1 | exact mnz_0 c1) (by first | omega | (dsimp only at *; omega) | exact mnz_1 p1 c1 | exact mnz_0 c1)) ?_
   refine RunD.en ?_
   exact Run.rR (fun _ _ _ H=>VPe (φ:=MatP) (mnrm_1 c1) (MatP.mk (H.f 8) (H.f 9) (H.f 10) (H.f 11) (H.f 12) (H.f 13) (H.f 14) (H.f 15)))
 · refine Run.kn c1 ?_
   refine Run.dr ?_
   refine RunD.cR spNum (fun _ _ _ H=>eDiv m.a m.c (NumP.mk (H.f 0) (H.f 1)) (NumP.mk (H.f 4) (H.f 5)) (by first | omega | (dsimp only at *; omega) | exact mnz_1 p1 c1 | exact mnz_0 c1) (by first | omega | (dsimp only at *; omega) | exact mnz_1 p1 c1 | exact mnz_0 c1)) ?_
   refine RunD.cR spNum (fun _ _ _ H=>eDiv m.b m.c (NumP.mk (H.f 2) (H.f 3)) (NumP.mk (H.f 4) (H.f 5)) (by first | omega | (dsimp only at *; omega) | exact mnz_1 p1 c1 | exact mnz_0 c1) (by first | omega | (dsimp only at *; omega) | exact mnz_1 p1 c1 | exact mnz_0 c1)) ?_
   refine RunD.cR spNum (fun _ _ _ H=>eDiv m.c m.c (NumP.mk (H.f 4) (H.f 5)) (NumP.mk (H.f 4) (H.f 5)) (by first | omega | (dsimp only at *; omega) | exact mnz_1 p1 c1 | exact mnz_0 c1) (by first | omega | (dsimp only at *; omega) | exact mnz_1 p1 c1 | exact mnz_0 c1)) ?_
   refine RunD.cR spNum (fun _ _ _ H=>eDiv m.d m.c (NumP.mk (H.f 6) (H.f 7)) (NumP.mk (H.f 4) (H.f 5)) (by first | omega | (dsimp only at *; omega) | exact mnz_1 p1 c1 | exact mnz_0 c1) (by first | omega | (dsimp only at *; omega) | exact mnz_1 p1 c1 | exact mnz_0 c1)) ?_
   refine RunD.en ?_
   exact Run.rR (fun _ _ _ H=>VPe (φ:=MatP) (mnrm_0 c1) (MatP.mk (H.f 8) (H.f 9) (H.f 10) (H.f 11) (H.f 12) (H.f 13) (H.f 14) (H.f 15)))
end Go.Proofs.YtcpjdjnaipbieaaGreat
namespace Go.Proofs.YtcpjdjnaipbieaaGreat
open Go.RowKit Rgn
noncomputable def valM (r:RF):Rat:=if h:fmay r = true then (fmay_ex h).choose else 0
theorem valM_rf {q:Rat} (h:fmay (rf q) = true):valM (rf q) = q:=by
 unfold valM
 rw [dif_pos h]
 exact (rf_inj (fmay_ex h).choose_spec).symm
theorem ratw_yes {x y:Int} (h0:¬ y < 0) (h1:¬ y.natAbs = 0) (h2:¬ (1024:Int) < (((bS x.natAbs).size:Nat):Int)) (h3:¬ (1024:Int) < (((bS y.natAbs).size:Nat):Int))
  (h4:((icmp ((Rat.divInt x y).num) x) != 0) = false) (h5:((icmp ((Rat.divInt x y).den:Int) y) != 0) = false):fmay (RF.mk (rw x) (rw y)) = true:=by
 have e4:(Rat.divInt x y).num = x:=icmp0.1 (by simpa using h4)
 have e5:((Rat.divInt x y).den:Int) = y:=icmp0.1 (by simpa using h5)
 have e:RF.mk (rw x) (rw y) = rf (Rat.divInt x y):=by
  show _ = RF.mk (rw (Rat.divInt x y).num) (rw ((Rat.divInt x y).den:Int))
  rw [e4,e5]
 have hf:fits (RF.mk (rw x) (rw y)) = true:=by
  unfold fits
  show (decide ((bS x.natAbs).size ≤ 1024) && decide ((bS y.natAbs).size ≤ 1024)) = true
  rw [decide_eq_true (by omega),decide_eq_true (by omega)]; rfl
 unfold fmay
 rw [hf,e,fformed_rf]; rfl
def Mb.form (m:Mb):Bool:=(m.c.sub (Cx.ofInt (1:Int) (0:Int))).zero || (m.c.zero && (m.d.sub (Cx.ofInt (1:Int) (0:Int))).zero)
open Classical in
noncomputable def ciOk (r:RCi):Bool:=decide (∃ c,r = rci c ∧ cifits (rci c) = true ∧ c.pos = true ∧ c.nrm = c)
open Classical in
open Classical in
noncomputable def mbOk (r:RMb):Bool:=decide (∃ m,r = rmb m ∧ mbfits (rmb m) = true ∧ m.det.zero = false ∧ m.form = true)
open Classical in
noncomputable def pnOk (r:RPn):Bool:=if r.inf = true then decide (r = RPn.mk true rz) else gmay r.z
theorem spot_1 {r:RPn} (h:r.inf = true):Value.bool (decide (r = RPn.mk true rz)) = .bool (pnOk r):=by unfold pnOk; rw [if_pos h]
theorem spot_0 {r:RPn} (h:r.inf = false):Value.bool (gmay r.z) = .bool (pnOk r):=by unfold pnOk; rw [if_neg (by rw [h]; decide)]
theorem ciOk_ex {r:RCi} (h:ciOk r = true):∃ c,r = rci c ∧ cifits (rci c) = true ∧ c.pos = true ∧ c.nrm = c:=by
 unfold ciOk at h; classical exact of_decide_eq_true h
theorem mbOk_ex {r:RMb} (h:mbOk r = true):∃ m,r = rmb m ∧ mbfits (rmb m) = true ∧ m.det.zero = false ∧ m.form = true:=by
 unfold mbOk at h; classical exact of_decide_eq_true h
theorem ciOk_c {c:Ci} (h:ciOk (rci c) = true):cifits (rci c) = true ∧ c.pos = true ∧ c.nrm = c:=by
 obtain ⟨d,e,h⟩:=ciOk_ex h
 obtain rfl:=rci_inj e
 exact h
theorem mbOk_c {c:Mb} (h:mbOk (rmb c) = true):mbfits (rmb c) = true ∧ c.det.zero = false ∧ c.form = true:=by
 obtain ⟨d,e,h⟩:=mbOk_ex h
 obtain rfl:=rmb_inj e
 exact h
theorem ci_of {r:RCi} (h1:fmay r.a = true) (h2:gmay r.b = true) (h3:fmay r.c = true):∃ c,r = rci c ∧ cifits (rci c) = true:=by
 obtain ⟨a,b,c⟩:=r
 obtain ⟨x,rfl⟩:=fmay_ex h1
 obtain ⟨y,rfl⟩:=gmay_ex h2
 obtain ⟨z,rfl⟩:=fmay_ex h3
 refine ⟨⟨x,y,z⟩,rfl,?_⟩
 show (fits (rf x) && gfits (rg y) && fits (rf z)) = true
 rw [gmay_rg] at h2
 rw [(and_tt h1).1,h2,(and_tt h3).1]; rfl
theorem ciOk_no {r:RCi} (h:ciOk r = false):¬ ∃ c,r = rci c ∧ cifits (rci c) = true ∧ c.pos = true ∧ c.nrm = c:=by unfold ciOk at h; classical exact of_decide_eq_false h
theorem ciOk_yes {c:Ci} (h1:cifits (rci c) = true) (h2:c.pos = true) (h3:c.nrm = c):ciOk (rci c) = true:=by unfold ciOk; classical exact decide_eq_true ⟨c,rfl,h1,h2,h3⟩
theorem mbOk_yes {m:Mb} (h1:mbfits (rmb m) = true) (h2:m.det.zero = false) (h3:m.form = true):mbOk (rmb m) = true:=by unfold mbOk; classical exact decide_eq_true ⟨m,rfl,h1,h2,h3⟩
theorem ht_dvI {a b:Int} (h:0 < b) {n:Nat} (h1:max (hi a) (hi b) ≤ n):ht (Rat.divInt a b) ≤ n + 1:=by
 obtain ⟨m,rfl⟩:=Int.eq_ofNat_of_zero_le (Int.le_of_lt h)
 have e:Rat.divInt a (m:Int) = mkRat a m:=rfl
 rw [e]
 have h2:=hi_bl a
 have h3:=hi_bl (m:Int)
 rw [Int.natAbs_natCast] at h3
 exact ht_mkRat a m (by omega) (by omega) (by omega)
theorem valM_no {r:RF} (h:fmay r = false):valM r = 0:=by
 unfold valM
 rw [dif_neg (by rw [h]; decide)]
theorem valM_ht (r:RF):ht (valM r) ≤ 8200:=by
 cases h:fmay r with
 | false=>rw [valM_no h,ht_zero]; omega
 | true =>
  obtain ⟨q,rfl⟩:=fmay_ex h
  rw [valM_rf h]
  exact fits_ht_le (and_tt h).1
noncomputable def gvm (r:RG):Cx:=⟨valM r.re,valM r.im⟩
theorem gvm_rg {z:Cx} (h:gmay (rg z) = true):gvm (rg z) = z:=by
 obtain ⟨h1,h2⟩:=and_tt h
 exact Cx.ext' (valM_rf h1) (valM_rf h2)
noncomputable def mvm (r:RMb):Mb:=⟨gvm r.a,gvm r.b,gvm r.c,gvm r.d,r.t⟩
theorem mvm_ht (r:RMb):(ht (gvm r.a).re ≤ 8200 ∧ ht (gvm r.a).im ≤ 8200) ∧ (ht (gvm r.b).re ≤ 8200 ∧ ht (gvm r.b).im ≤ 8200) ∧ (ht (gvm r.c).re ≤ 8200 ∧ ht (gvm r.c).im ≤ 8200) ∧ (ht (gvm r.d).re ≤ 8200 ∧ ht (gvm r.d).im ≤ 8200) :=
 ⟨⟨valM_ht _,valM_ht _⟩,⟨valM_ht _,valM_ht _⟩,⟨valM_ht _,valM_ht _⟩,⟨valM_ht _,valM_ht _⟩⟩
theorem mvm_rmb {m:Mb} (h:(gmay (rg m.a) && gmay (rg m.b) && gmay (rg m.c) && gmay (rg m.d)) = true):mvm (rmb m) = m:=by
 obtain ⟨h1,h2,h3,h4⟩:=and_4 h
 show Mb.mk (gvm (rg m.a)) (gvm (rg m.b)) (gvm (rg m.c)) (gvm (rg m.d)) m.t = m
 rw [gvm_rg h1,gvm_rg h2,gvm_rg h3,gvm_rg h4]
theorem form_1 {m:Mb} (h:(m.c.sub (Cx.ofInt (1:Int) (0:Int))).zero = true):m.form = true:=by unfold Mb.form; rw [h]; rfl
theorem form_2 {m:Mb} (h:(m.c.sub (Cx.ofInt (1:Int) (0:Int))).zero = false) (h' : m.c.zero = false):m.form = false:=by unfold Mb.form; rw [h,h']; rfl
theorem form_3 {m:Mb} (h:(m.c.sub (Cx.ofInt (1:Int) (0:Int))).zero = false) (h' : m.c.zero = true):m.form = (m.d.sub (Cx.ofInt (1:Int) (0:Int))).zero:=by unfold Mb.form; rw [h,h']; rfl
end Go.Proofs.YtcpjdjnaipbieaaGreat
namespace Go.Proofs.YtcpjdjnaipbieaaGreat
open Go.RowKit Rgn
theorem fmay_rf (q:Rat):fmay (rf q) = fits (rf q):=by unfold fmay; rw [fformed_rf,Bool.and_true]
theorem cmay_a {c:Ci} (h:cifits (rci c) = true):fmay (rf c.a) = true:=by rw [fmay_rf]; exact (and_3 h).1
theorem cmay_b {c:Ci} (h:cifits (rci c) = true):gmay (rg c.b) = true:=by rw [gmay_rg]; exact (and_3 h).2.1
theorem cmay_c {c:Ci} (h:cifits (rci c) = true):fmay (rf c.c) = true:=by rw [fmay_rf]; exact (and_3 h).2.2
def Mb.chk (m:Mb):Int:=if ((!decide (m.c = Cx.ofInt (1:Int) (0:Int)) && (!decide (m.c = Cx.ofInt (0:Int) (0:Int)) || !decide (m.d = Cx.ofInt (1:Int) (0:Int)))) || m.det.zero) = true then 2 else 0
def Ci.chk (c:Ci):Int:=if (decide (c.pow.num.sign ≤ 0) || !decide (c.nrm = c)) = true then 2 else 0
theorem over_eq (z:Cx) (x:Rat):Cx.mk (z.re / x) (z.im / x) = z.scale x⁻¹:=Cx.ext' (Rat.div_def _ _) (Rat.div_def _ _)
theorem nrmd_0 {c:Ci} (h:(c.a.num.sign == 0) = false):Ci.mk (c.a / c.a) (c.b.scale c.a⁻¹) (c.c / c.a) = c.nrm:=by rw [Rat.div_def,Rat.div_def]; exact nrm_0 h
theorem nrmd_1 {c:Ci} (h:(c.a.num.sign == 0) = true) (h' : (c.b.re.num.sign == 0) = false):Ci.mk (c.a / c.b.re) (c.b.scale c.b.re⁻¹) (c.c / c.b.re) = c.nrm:=by rw [Rat.div_def,Rat.div_def]; exact nrm_1 h h'
theorem nrmd_2 {c:Ci} (h:(c.a.num.sign == 0) = true) (h' : (c.b.re.num.sign == 0) = true):Ci.mk (c.a / c.b.im) (c.b.scale c.b.im⁻¹) (c.c / c.b.im) = c.nrm:=by rw [Rat.div_def,Rat.div_def]; exact nrm_2 h h'
theorem cchk_0 {c:Ci} (h1:c.pos = true) (h2:c.nrm = c):c.chk = 0:=by
 unfold Ci.chk
 rw [pos_le h1,decide_eq_true h2]; rfl
theorem cchk_2 {c:Ci} (h:¬ (c.pos = true ∧ c.nrm = c)):c.chk = 2:=by
 unfold Ci.chk
 cases h1:c.pos with
 | false=>rw [pos_no h1]; rfl
 | true=>rw [pos_le h1,decide_eq_false (fun e=>h ⟨h1,e⟩)]; rfl
abbrev unitK:Ci:=⟨((1:Int):Rat),Cx.ofInt (0:Int) (0:Int),((-1:Int):Rat)⟩
abbrev lineK:Ci:=⟨((0:Int):Rat),Cx.ofInt (0:Int) (1:Int),((0:Int):Rat)⟩
end Go.Proofs.YtcpjdjnaipbieaaGreat
namespace Go.Proofs.YtcpjdjnaipbieaaGreat
open Go.RowKit Rgn Eng
set_option maxHeartbeats 8000000
set_option maxRecDepth 100000
variable {S:Nat → Prop} {W:World}
theorem m8Fits (r:RMb):Calls Tryz.prog 164 #[rmbV r] W (RetV (.bool (mbfits r)) W):=by
 refine Run.goP (S:=Z0) (Pack.nil.k (rmbV r) (rmbC r).toList (.s (.agg (ks 0 33)))) Tryz.func164 rfl ?_
 refine Run.cV [.bool (gfits r.a)] kb (fun _ _ _ H=>cFits r.a) ?_
 refine (Bool.eq_false_or_eq_true (gfits r.a)).elim (fun c1=>?_) (fun c1=>?_)
 · refine Run.kn c1 ?_
   refine Run.cV [.bool (gfits r.b)] kb (fun _ _ _ H=>cFits r.b) ?_
   refine (Bool.eq_false_or_eq_true (gfits r.b)).elim (fun c2=>?_) (fun c2=>?_)
   · refine Run.kn c2 ?_
     refine Run.cV [.bool (gfits r.c)] kb (fun _ _ _ H=>cFits r.c) ?_
     refine (Bool.eq_false_or_eq_true (gfits r.c)).elim (fun c3=>?_) (fun c3=>?_)
     · refine Run.kn c3 ?_
       refine Run.cV [.bool (gfits r.d)] kb (fun _ _ _ H=>cFits r.d) ?_
       exact Run.rV (V' := .bool (gfits r.d)) ((by unfold mbfits; rw [c1,c2,c3]; rfl))
     · refine Run.kn c3 ?_
       exact Run.rV (V' := .bool false) ((by unfold mbfits; rw [c1,c2,c3]; rfl))
   · refine Run.kn c2 ?_
     exact Run.rV (V' := .bool false) ((by unfold mbfits; rw [c1,c2]; rfl))
 · refine Run.kn c1 ?_
   exact Run.rV (V' := .bool false) ((by unfold mbfits; rw [c1]; rfl))
theorem m8Norm (a:Cx) (b:Cx) (c:Cx) (d:Cx) (t:Bool) (p0:ht a.re + ht a.im + ht b.re + ht b.im + ht c.re + ht c.im + ht d.re + ht d.im ≤ 536870912) (p1:(Mb.mk a b c d t).piv.zero = false):Calls Tryz.prog 162 #[gV a,gV b,gV c,gV d,.bool t] W (RetV (mbV ((Mb.mk a b c d t).nrm)) W):=by
 refine Run.goP (S:=Z0) (((((Pack.nil.k (gV a) (gC a).toList (.s (.agg (ks 0 8)))).k (gV b) (gC b).toList (.s (.agg (ks 0 8)))).k (gV c) (gC c).toList (.s (.agg (ks 0 8)))).k (gV d) (gC d).toList (.s (.agg (ks 0 8)))).k (.bool t) [.bool t] kb) Tryz.func162 rfl ?_
 refine Run.cV [.bool c.zero] kb (fun _ _ _ H=>cZero c) ?_
 refine (Bool.eq_false_or_eq_true (c.zero)).elim (fun c1=>?_) (fun c1=>?_)
 · refine Run.kn c1 ?_
   refine Run.dr ?_
   refine RunD.cV (gC (a.div d)).toList (.s (.agg (ks 0 8))) (fun _ _ _ H=>cOver a d (by first | omega | exact mnz_1 (m:=Mb.mk a b c d t) p1 c1 | exact mnz_0 (m:=Mb.mk a b c d t) c1) (by first | omega | exact mnz_1 (m:=Mb.mk a b c d t) p1 c1 | exact mnz_0 (m:=Mb.mk a b c d t) c1)) ?_
   refine RunD.cV (gC (b.div d)).toList (.s (.agg (ks 0 8))) (fun _ _ _ H=>cOver b d (by first | omega | exact mnz_1 (m:=Mb.mk a b c d t) p1 c1 | exact mnz_0 (m:=Mb.mk a b c d t) c1) (by first | omega | exact mnz_1 (m:=Mb.mk a b c d t) p1 c1 | exact mnz_0 (m:=Mb.mk a b c d t) c1)) ?_
   refine RunD.cV (gC (c.div d)).toList (.s (.agg (ks 0 8))) (fun _ _ _ H=>cOver c d (by first | omega | exact mnz_1 (m:=Mb.mk a b c d t) p1 c1 | exact mnz_0 (m:=Mb.mk a b c d t) c1) (by first | omega | exact mnz_1 (m:=Mb.mk a b c d t) p1 c1 | exact mnz_0 (m:=Mb.mk a b c d t) c1)) ?_
   refine RunD.cV (gC (d.div d)).toList (.s (.agg (ks 0 8))) (fun _ _ _ H=>cOver d d (by first | omega | exact mnz_1 (m:=Mb.mk a b c d t) p1 c1 | exact mnz_0 (m:=Mb.mk a b c d t) c1) (by first | omega | exact mnz_1 (m:=Mb.mk a b c d t) p1 c1 | exact mnz_0 (m:=Mb.mk a b c d t) c1)) ?_
   refine RunD.en ?_
   exact Run.rV (congrArg mbV (mnrm_1 (m:=Mb.mk a b c d t) c1))
 · refine Run.kn c1 ?_
   refine Run.dr ?_
   refine RunD.cV (gC (a.div c)).toList (.s (.agg (ks 0 8))) (fun _ _ _ H=>cOver a c (by first | omega | exact mnz_1 (m:=Mb.mk a b c d t) p1 c1 | exact mnz_0 (m:=Mb.mk a b c d t) c1) (by first | omega | exact mnz_1 (m:=Mb.mk a b c d t) p1 c1 | exact mnz_0 (m:=Mb.mk a b c d t) c1)) ?_
   refine RunD.cV (gC (b.div c)).toList (.s (.agg (ks 0 8))) (fun _ _ _ H=>cOver b c (by first | omega | exact mnz_1 (m:=Mb.mk a b c d t) p1 c1 | exact mnz_0 (m:=Mb.mk a b c d t) c1) (by first | omega | exact mnz_1 (m:=Mb.mk a b c d t) p1 c1 | exact mnz_0 (m:=Mb.mk a b c d t) c1)) ?_
   refine RunD.cV (gC (c.div c)).toList (.s (.agg (ks 0 8))) (fun _ _ _ H=>cOver c c (by first | omega | exact mnz_1 (m:=Mb.mk a b c d t) p1 c1 | exact mnz_0 (m:=Mb.mk a b c d t) c1) (by first | omega | exact mnz_1 (m:=Mb.mk a b c d t) p1 c1 | exact mnz_0 (m:=Mb.mk a b c d t) c1)) ?_
   refine RunD.cV (gC (d.div c)).toList (.s (.agg (ks 0 8))) (fun _ _ _ H=>cOver d c (by first | omega | exact mnz_1 (m:=Mb.mk a b c d t) p1 c1 | exact mnz_0 (m:=Mb.mk a b c d t) c1) (by first | omega | exact mnz_1 (m:=Mb.mk a b c d t) p1 c1 | exact mnz_0 (m:=Mb.mk a b c d t) c1)) ?_
   refine RunD.en ?_
   exact Run.rV (congrArg mbV (mnrm_0 (m:=Mb.mk a b c d t) c1))
theorem c11Fits (r:RCi):Calls Tryz.prog 88 #[rciV r] W (RetV (.bool (cifits r)) W):=by
 refine Run.goP (S:=Z0) (Pack.nil.k (rciV r) (rciC r).toList (.s (.agg (ks 0 16)))) Tryz.func88 rfl ?_
 refine Run.cV [.bool (fits r.a)] kb (fun _ _ _ H=>fFits r.a) ?_
 refine (Bool.eq_false_or_eq_true (fits r.a)).elim (fun c1=>?_) (fun c1=>?_)
 · refine Run.kn c1 ?_
   refine Run.cV [.bool (gfits r.b)] kb (fun _ _ _ H=>cFits r.b) ?_
   refine (Bool.eq_false_or_eq_true (gfits r.b)).elim (fun c2=>?_) (fun c2=>?_)
   · refine Run.kn c2 ?_
     refine Run.cV [.bool (fits r.c)] kb (fun _ _ _ H=>fFits r.c) ?_
     exact Run.rV (V' := .bool (fits r.c)) ((by unfold cifits; rw [c1,c2]; rfl))
   · refine Run.kn c2 ?_
     exact Run.rV (V' := .bool false) ((by unfold cifits; rw [c1,c2]; rfl))
 · refine Run.kn c1 ?_
   exact Run.rV (V' := .bool false) ((by unfold cifits; rw [c1]; rfl))
theorem c11Pow (c:Ci) (p0:ht c.a + ht c.b.re + ht c.b.im + ht c.c ≤ 1073741824):Calls Tryz.prog 153 #[ciV c] W (RetV (fV c.pow) W):=by
 have h1:=hc_norm c.b
 have h2:=ht_mul c.a c.c
 refine Run.goP (S:=Z0) (Pack.nil.k (ciV c) (ciC c).toList (.s (.agg (ks 0 16)))) Tryz.func153 rfl ?_
 refine Run.dr ?_
 refine RunD.cV (fC c.b.norm).toList (.s (.agg (ks 0 4))) (fun _ _ _ H=>cNorm c.b (by first | omega | (dsimp only at *; omega))) ?_
 refine RunD.cV (fC (c.a * c.c)).toList (.s (.agg (ks 0 4))) (fun _ _ _ H=>fTimes c.a c.c (by first | omega | (dsimp only at *; omega))) ?_
 refine RunD.cV (fC (c.b.norm - (c.a * c.c))).toList (.s (.agg (ks 0 4))) (fun _ _ _ H=>fMinus c.b.norm (c.a * c.c) (by first | omega | (dsimp only at *; omega))) ?_
 refine RunD.en ?_
 exact Run.rV rfl
theorem c11Over (z:Cx) (x:Rat) (p0:ht z.re + ht z.im + ht x ≤ 1073741824) (p1:x ≠ 0):Calls Tryz.prog 240 #[gV z,fV x] W (RetV (gV (z.scale x⁻¹)) W):=by
 refine Run.goP (S:=Z0) ((Pack.nil.k (gV z) (gC z).toList (.s (.agg (ks 0 8)))).k (fV x) (fC x).toList (.s (.agg (ks 0 4)))) Tryz.func240 rfl ?_
 refine Run.dr ?_
 refine RunD.cV (fC (z.re / x)).toList (.s (.agg (ks 0 4))) (fun _ _ _ H=>fOver z.re x (by first | omega | exact p1) p1) ?_
 refine RunD.cV (fC (z.im / x)).toList (.s (.agg (ks 0 4))) (fun _ _ _ H=>fOver z.im x (by first | omega | exact p1) p1) ?_
 refine RunD.en ?_
 exact Run.rV (congrArg gV (over_eq z x))
theorem c11Norm (a:Rat) (b:Cx) (c:Rat) (p0:ht a + ht b.re + ht b.im + ht c ≤ 268435456) (p1:(Ci.mk a b c).flat = false):Calls Tryz.prog 154 #[fV a,gV b,fV c] W (RetV (ciV ((Ci.mk a b c).nrm)) W):=by
 refine Run.goP (S:=Z0) (((Pack.nil.k (fV a) (fC a).toList (.s (.agg (ks 0 4)))).k (gV b) (gC b).toList (.s (.agg (ks 0 8)))).k (fV c) (fC c).toList (.s (.agg (ks 0 4)))) Tryz.func154 rfl ?_
 refine Run.cV [.int .i64 a.num.sign] kb (fun _ _ _ H=>fSign a) ?_
 refine Run.ic a.num.sign 0 (a.num.sign == 0) ?_
 refine (Bool.eq_false_or_eq_true (a.num.sign == 0)).elim (fun c1=>?_) (fun c1=>?_)
 · refine Run.kn c1 ?_
   refine Run.cV [.int .i64 b.re.num.sign] kb (fun _ _ _ H=>fSign b.re) ?_
   refine Run.ic b.re.num.sign 0 (b.re.num.sign == 0) ?_
   refine (Bool.eq_false_or_eq_true (b.re.num.sign == 0)).elim (fun c2=>?_) (fun c2=>?_)
   · refine Run.kn c2 ?_
     refine Run.dr ?_
     refine RunD.cV (fC (a / b.im)).toList (.s (.agg (ks 0 4))) (fun _ _ _ H=>fOver a b.im (by first | omega | exact nz_2 (c:=Ci.mk a b c) p1 c1 c2 | exact sgn_no c2 | exact sgn_no c1) (by first | omega | exact nz_2 (c:=Ci.mk a b c) p1 c1 c2 | exact sgn_no c2 | exact sgn_no c1)) ?_
     refine RunD.cV (gC (b.scale b.im⁻¹)).toList (.s (.agg (ks 0 8))) (fun _ _ _ H=>c11Over b b.im (by first | omega | exact nz_2 (c:=Ci.mk a b c) p1 c1 c2 | exact sgn_no c2 | exact sgn_no c1) (by first | omega | exact nz_2 (c:=Ci.mk a b c) p1 c1 c2 | exact sgn_no c2 | exact sgn_no c1)) ?_
     refine RunD.cV (fC (c / b.im)).toList (.s (.agg (ks 0 4))) (fun _ _ _ H=>fOver c b.im (by first | omega | exact nz_2 (c:=Ci.mk a b c) p1 c1 c2 | exact sgn_no c2 | exact sgn_no c1) (by first | omega | exact nz_2 (c:=Ci.mk a b c) p1 c1 c2 | exact sgn_no c2 | exact sgn_no c1)) ?_
     refine RunD.en ?_
     exact Run.rV (congrArg ciV (nrmd_2 (c:=Ci.mk a b c) c1 c2))
   · refine Run.kn c2 ?_
     refine Run.dr ?_
     refine RunD.cV (fC (a / b.re)).toList (.s (.agg (ks 0 4))) (fun _ _ _ H=>fOver a b.re (by first | omega | exact nz_2 (c:=Ci.mk a b c) p1 c1 c2 | exact sgn_no c2 | exact sgn_no c1) (by first | omega | exact nz_2 (c:=Ci.mk a b c) p1 c1 c2 | exact sgn_no c2 | exact sgn_no c1)) ?_
     refine RunD.cV (gC (b.scale b.re⁻¹)).toList (.s (.agg (ks 0 8))) (fun _ _ _ H=>c11Over b b.re (by first | omega | exact nz_2 (c:=Ci.mk a b c) p1 c1 c2 | exact sgn_no c2 | exact sgn_no c1) (by first | omega | exact nz_2 (c:=Ci.mk a b c) p1 c1 c2 | exact sgn_no c2 | exact sgn_no c1)) ?_
     refine RunD.cV (fC (c / b.re)).toList (.s (.agg (ks 0 4))) (fun _ _ _ H=>fOver c b.re (by first | omega | exact nz_2 (c:=Ci.mk a b c) p1 c1 c2 | exact sgn_no c2 | exact sgn_no c1) (by first | omega | exact nz_2 (c:=Ci.mk a b c) p1 c1 c2 | exact sgn_no c2 | exact sgn_no c1)) ?_
     refine RunD.en ?_
     exact Run.rV (congrArg ciV (nrmd_1 (c:=Ci.mk a b c) c1 c2))
 · refine Run.kn c1 ?_
   refine Run.cV [.int .i64 a.num.sign] kb (fun _ _ _ H=>fSign a) ?_
   refine Run.ic a.num.sign 0 (a.num.sign == 0) ?_
   refine Run.kn c1 ?_
   refine Run.dr ?_
   refine RunD.cV (fC (a / a)).toList (.s (.agg (ks 0 4))) (fun _ _ _ H=>fOver a a (by first | omega | exact nz_2 (c:=Ci.mk a b c) p1 c1 _ | exact sgn_no _ | exact sgn_no c1) (by first | omega | exact nz_2 (c:=Ci.mk a b c) p1 c1 _ | exact sgn_no _ | exact sgn_no c1)) ?_
   refine RunD.cV (gC (b.scale a⁻¹)).toList (.s (.agg (ks 0 8))) (fun _ _ _ H=>c11Over b a (by first | omega | exact nz_2 (c:=Ci.mk a b c) p1 c1 _ | exact sgn_no _ | exact sgn_no c1) (by first | omega | exact nz_2 (c:=Ci.mk a b c) p1 c1 _ | exact sgn_no _ | exact sgn_no c1)) ?_
   refine RunD.cV (fC (c / a)).toList (.s (.agg (ks 0 4))) (fun _ _ _ H=>fOver c a (by first | omega | exact nz_2 (c:=Ci.mk a b c) p1 c1 _ | exact sgn_no _ | exact sgn_no c1) (by first | omega | exact nz_2 (c:=Ci.mk a b c) p1 c1 _ | exact sgn_no _ | exact sgn_no c1)) ?_
   refine RunD.en ?_
   exact Run.rV (congrArg ciV (nrmd_0 (c:=Ci.mk a b c) c1))
theorem c11ChkT (c:Ci) (p0:cifits (rci c) = true):Calls Tryz.prog 78 #[ciV c] W (RetV (.int .i64 c.chk) W):=by
 have f:=cifits_ht p0
 refine Run.goP (S:=Z0) (Pack.nil.k (ciV c) (ciC c).toList (.s (.agg (ks 0 16)))) Tryz.func78 rfl ?_
 refine Run.cV [.bool (fmay (rf c.a))] kb (fun _ _ _ H=>fMay (rf c.a)) ?_
 refine Run.kn (cmay_a p0) ?_
 refine Run.cV [.bool (gmay (rg c.b))] kb (fun _ _ _ H=>cMay (rg c.b)) ?_
 refine Run.kn (cmay_b p0) ?_
 refine Run.cV [.bool (fmay (rf c.c))] kb (fun _ _ _ H=>fMay (rf c.c)) ?_
 refine Run.kn (cmay_c p0) ?_
 refine Run.cV (fC c.pow).toList (.s (.agg (ks 0 4))) (fun _ _ _ H=>c11Pow c (by first | omega | exact pos_flat (by unfold Ci.pos; rw [_]; rfl))) ?_
 refine Run.cV [.int .i64 c.pow.num.sign] kb (fun _ _ _ H=>fSign c.pow) ?_
 refine Run.ic c.pow.num.sign 0 (decide (c.pow.num.sign ≤ 0)) ?_
 refine (Bool.eq_false_or_eq_true (decide (c.pow.num.sign ≤ 0))).elim (fun c1=>?_) (fun c1=>?_)
 · refine Run.kn c1 ?_
   exact Run.rV (V' := .int .i64 (2)) ((by simp only [Ci.chk,c1]; rfl))
 · refine Run.kn c1 ?_
   refine Run.dr ?_
   refine RunD.cV (ciC ((Ci.mk c.a c.b c.c).nrm)).toList (.s (.agg (ks 0 16))) (fun _ _ _ H=>c11Norm c.a c.b c.c (by first | omega | exact pos_flat (by unfold Ci.pos; rw [c1]; rfl)) (by first | omega | exact pos_flat (by unfold Ci.pos; rw [c1]; rfl))) ?_
   refine RunD.bi [.bool (!decide ((Ci.mk c.a c.b c.c).nrm = c))] kb (fun _ _ _ o1 o2 _ ho hx hy=>ex_neq_ci (r:=(rci ((Ci.mk c.a c.b c.c).nrm))) (q:=(rci c)) o1 o2 ho hx hy (rci_dec ((Ci.mk c.a c.b c.c).nrm) c)) ?_
   refine RunD.en ?_
   refine (Bool.eq_false_or_eq_true (!decide ((Ci.mk c.a c.b c.c).nrm = c))).elim (fun c2=>?_) (fun c2=>?_)
   · refine Run.kn c2 ?_
     exact Run.rV (V' := .int .i64 (2)) ((by simp only [Ci.chk,c1,c2]; rfl))
   · refine Run.kn c2 ?_
     exact Run.rV (V' := .int .i64 (0)) ((by simp only [Ci.chk,c1,c2]; rfl))
theorem r14Real (x:Rat):Calls Tryz.prog 163 #[fV x] W (RetV (gV (Cx.mk x 0)) W):=by
 refine Run.goP (S:=Z0) (Pack.nil.k (fV x) (fC x).toList (.s (.agg (ks 0 4)))) Tryz.func163 rfl ?_
 refine Run.dr ?_
 refine RunD.cV (fC (0:Rat)).toList (.s (.agg (ks 0 4))) (fun _ _ _ H=>fInt 0 (by decide) (by decide)) ?_
 refine RunD.en ?_
 exact Run.rV rfl
theorem r14Over (c:Ci) (p0:ht c.a + ht c.b.re + ht c.b.im + ht c.c ≤ 67108864) (p1:c.over.piv.zero = false):Calls Tryz.prog 36 #[ciV c] W (RetV (mbV c.over.nrm) W):=by
 have h1:=hc_conj c.b
 have h2:=hc_neg c.b.conj
 have h3:=ht_neg c.c
 have z0:=ht_zero
 dsimp only at h1 h2
 refine Run.goP (S:=Z0) (Pack.nil.k (ciV c) (ciC c).toList (.s (.agg (ks 0 16)))) Tryz.func36 rfl ?_
 refine Run.dr ?_
 refine RunD.cV (gC c.b.conj).toList (.s (.agg (ks 0 8))) (fun _ _ _ H=>cConj c.b) ?_
 refine RunD.cV (gC c.b.conj.neg).toList (.s (.agg (ks 0 8))) (fun _ _ _ H=>cNeg c.b.conj) ?_
 refine RunD.cV (fC (-c.c)).toList (.s (.agg (ks 0 4))) (fun _ _ _ H=>fNeg c.c) ?_
 refine RunD.cV (gC (Cx.mk (-c.c) 0)).toList (.s (.agg (ks 0 8))) (fun _ _ _ H=>r14Real (-c.c)) ?_
 refine RunD.cV (gC (Cx.mk c.a 0)).toList (.s (.agg (ks 0 8))) (fun _ _ _ H=>r14Real c.a) ?_
 refine RunD.cV (mbC ((Mb.mk c.b.conj.neg (Cx.mk (-c.c) 0) (Cx.mk c.a 0) c.b true).nrm)).toList (.s (.agg (ks 0 33))) (fun _ _ _ H=>m8Norm c.b.conj.neg (Cx.mk (-c.c) 0) (Cx.mk c.a 0) c.b true (by first | omega | (dsimp only at *; omega) | exact p1) (by first | omega | (dsimp only at *; omega) | exact p1)) ?_
 refine RunD.en ?_
 exact Run.rV rfl
theorem l14Num (n:Int):Calls Tryz.prog 27 #[.int .i64 n] W (RetV (.int .i64 n) W):=by
 refine Run.goP (S:=Z0) (Pack.nil.k (.int .i64 n) [.int .i64 n] kb) Tryz.func27 rfl ?_
 exact Run.rV rfl
theorem l14Unit  : Calls Tryz.prog 55 #[] W (RetV (ciV unitK) W):=by
 refine Run.goP (S:=Z0) Pack.nil Tryz.func55 rfl ?_
 refine Run.cV (fC (1:Rat)).toList (.s (.agg (ks 0 4))) (fun _ _ _ H=>fInt 1 (by decide) (by decide)) ?_
 refine Run.cV (gC (Cx.ofInt 0 0)).toList (.s (.agg (ks 0 8))) (fun _ _ _ H=>cInt 0 0 (by decide) (by decide) (by decide) (by decide)) ?_
 refine Run.cV (fC ((-1):Rat)).toList (.s (.agg (ks 0 4))) (fun _ _ _ H=>fInt (-1) (by decide) (by decide)) ?_
 exact Run.rV rfl
theorem l14Line  : Calls Tryz.prog 58 #[] W (RetV (ciV lineK) W):=by
 refine Run.goP (S:=Z0) Pack.nil Tryz.func58 rfl ?_
 refine Run.cV (fC (0:Rat)).toList (.s (.agg (ks 0 4))) (fun _ _ _ H=>fInt 0 (by decide) (by decide)) ?_
 refine Run.cV (gC (Cx.ofInt 0 1)).toList (.s (.agg (ks 0 8))) (fun _ _ _ H=>cInt 0 1 (by decide) (by decide) (by decide) (by decide)) ?_
 refine Run.cV (fC (0:Rat)).toList (.s (.agg (ks 0 4))) (fun _ _ _ H=>fInt 0 (by decide) (by decide)) ?_
 exact Run.rV rfl
end Go.Proofs.YtcpjdjnaipbieaaGreat
namespace Go.Proofs.YtcpjdjnaipbieaaGreat
open Go.RowKit Rgn
set_option maxHeartbeats 4000000
set_option maxRecDepth 100000
variable {S:Nat → Prop} {W:World}
theorem c11ChkA (r:RCi) (p0:(fmay r.a && gmay r.b && fmay r.c) = false) :
  Calls Tryz.prog 78 #[rciV r] W (RetV (.int .i64 2) W):=by
 have bel:=b0 W
 go_enter Tryz.func78,Tryz.ntmps78
 refine gs 2 (Amb Z0 W) fun _ K1=>?_
 refine .bx rfl (fun H=>H.v 0 (rciV r)) ?_
 refine .mc rfl ?_
 refine .dk (fun u=>rciV r::u 0::u 1::us 31) K1 bel fun u1 w1 D bel=>?_
 obtain ⟨b2,E1_0,A2,B2⟩:=D.nw 0
 have E1_1:=D.q 1
 clear D
 refine wp_seq_k fun _ K3=>?_
 rcases Bool.eq_false_or_eq_true (fmay r.a) with c5 | c5
 ·
  rcases Bool.eq_false_or_eq_true (gmay r.b) with c6 | c6
  ·
   rcases Bool.eq_false_or_eq_true (fmay r.c) with c7 | c7
   ·
    exact absurd p0 (by simp [c5,c6,c7])
   ·
    refine gs 22 (Amb Z0 W) fun _ K4=>?_
    refine .fz rfl 1 0 E1_0 ?_
    refine .lp rfl 0 (rfC r.a) B2 ?_
    refine .cK rfl (V:=.bool true) Tryz.func72 (fun H=>⟨_,ar1 (H.g 4 1),reV (congrArg Value.bool c5) (fMay _)⟩) ?_
    refine .e rfl (V:=.bool false) (fun H=>x_not (H.g 5 2)) ?_
    refine .mv rfl 3 ?_
    refine .fz rfl 1 4 E1_0 ?_ (hg:=gq 4 rfl)
    refine .lp rfl 5 (rgC r.b) B2 ?_ (hg:=gq 4 rfl)
    refine .cK rfl (V:=.bool true) Tryz.func71 (fun H=>⟨_,ar1 (H.g 9 6),reV (congrArg Value.bool c6) (cMay _)⟩) ?_ (hg:=gq 4 rfl)
    refine .e rfl (V:=.bool false) (fun H=>x_not (H.g 10 7)) ?_ (hg:=gq 4 rfl)
    refine .e rfl (fun H=>x_pkF (H.g 7 4) (H.g 11 8)) ?_
    refine .mv rfl 9 ?_
    refine .fz rfl 1 12 E1_0 ?_ (hg:=gq 10 rfl)
    refine .lp rfl 11 (rfC r.c) B2 ?_ (hg:=gq 10 rfl)
    refine .cK rfl (V:=.bool false) Tryz.func72 (fun H=>⟨_,ar1 (H.g 15 12),reV (congrArg Value.bool c7) (fMay _)⟩) ?_ (hg:=gq 10 rfl)
    refine .e rfl (V:=.bool true) (fun H=>x_not (H.g 16 13)) ?_ (hg:=gq 10 rfl)
    refine .e rfl (fun H=>x_pkF (H.g 13 10) (H.g 17 14)) ?_
    refine .mv rfl 15 ?_
    refine .sk rfl 16 ?_
    refine .sk rfl 16 ?_
    refine .sk rfl 16 ?_
    refine .sk rfl 16 ?_
    refine .e rfl (fun H=>x_pkT (H.g 19 16) (H.c _)) ?_
    refine .dk (fun u=>rciV r::u1 0::u1 1::sq u 0 22 (us 9)) K4 bel fun u2 w2 D bel=>?_
    have E2_21:=D.q 21
    replace B2:=D.k B2
    clear D
    refine wp_cond_true (by exact E2_21) ?_
    refine gs 1 (Amb Z0 W) fun _ K8=>?_
    refine .mc rfl ?_
    refine .dk (fun u=>rciV r::u1 0::u 0::sq u2 0 22 (us 9)) K8 bel fun u3 w3 D bel=>?_
    have E3_0:=D.q 0
    clear D
    exact wp_ret (rt rfl E3_0 rfl bel)
  ·
   refine gs 22 (Amb Z0 W) fun _ K4=>?_
   refine .fz rfl 1 0 E1_0 ?_
   refine .lp rfl 0 (rfC r.a) B2 ?_
   refine .cK rfl (V:=.bool true) Tryz.func72 (fun H=>⟨_,ar1 (H.g 4 1),reV (congrArg Value.bool c5) (fMay _)⟩) ?_
   refine .e rfl (V:=.bool false) (fun H=>x_not (H.g 5 2)) ?_
   refine .mv rfl 3 ?_
   refine .fz rfl 1 4 E1_0 ?_ (hg:=gq 4 rfl)
   refine .lp rfl 5 (rgC r.b) B2 ?_ (hg:=gq 4 rfl)
   refine .cK rfl (V:=.bool false) Tryz.func71 (fun H=>⟨_,ar1 (H.g 9 6),reV (congrArg Value.bool c6) (cMay _)⟩) ?_ (hg:=gq 4 rfl)
   refine .e rfl (V:=.bool true) (fun H=>x_not (H.g 10 7)) ?_ (hg:=gq 4 rfl)
   refine .e rfl (fun H=>x_pkF (H.g 7 4) (H.g 11 8)) ?_
   refine .mv rfl 9 ?_
   refine .sk rfl 10 ?_
   refine .sk rfl 10 ?_
   refine .sk rfl 10 ?_
   refine .sk rfl 10 ?_
   refine .e rfl (fun H=>x_pkT (H.g 13 10) (H.c _)) ?_
   refine .mv rfl 15 ?_
   refine .sk rfl 16 ?_
   refine .sk rfl 16 ?_
   refine .sk rfl 16 ?_
   refine .sk rfl 16 ?_
   refine .e rfl (fun H=>x_pkT (H.g 19 16) (H.c _)) ?_
   refine .dk (fun u=>rciV r::u1 0::u1 1::sq u 0 22 (us 9)) K4 bel fun u2 w2 D bel=>?_
   have E2_21:=D.q 21
   replace B2:=D.k B2
   clear D
   refine wp_cond_true (by exact E2_21) ?_
   refine gs 1 (Amb Z0 W) fun _ K9=>?_
   refine .mc rfl ?_
   refine .dk (fun u=>rciV r::u1 0::u 0::sq u2 0 22 (us 9)) K9 bel fun u3 w3 D bel=>?_
   have E3_0:=D.q 0
   clear D
   exact wp_ret (rt rfl E3_0 rfl bel)
 ·
  refine gs 22 (Amb Z0 W) fun _ K4=>?_
  refine .fz rfl 1 0 E1_0 ?_
  refine .lp rfl 0 (rfC r.a) B2 ?_
  refine .cK rfl (V:=.bool false) Tryz.func72 (fun H=>⟨_,ar1 (H.g 4 1),reV (congrArg Value.bool c5) (fMay _)⟩) ?_
  refine .e rfl (V:=.bool true) (fun H=>x_not (H.g 5 2)) ?_
  refine .mv rfl 3 ?_
  refine .sk rfl 4 ?_
  refine .sk rfl 4 ?_
  refine .sk rfl 4 ?_
  refine .sk rfl 4 ?_
  refine .e rfl (fun H=>x_pkT (H.g 7 4) (H.c _)) ?_
  refine .mv rfl 9 ?_
  refine .sk rfl 10 ?_
  refine .sk rfl 10 ?_
  refine .sk rfl 10 ?_
  refine .sk rfl 10 ?_
  refine .e rfl (fun H=>x_pkT (H.g 13 10) (H.c _)) ?_
  refine .mv rfl 15 ?_
  refine .sk rfl 16 ?_
  refine .sk rfl 16 ?_
  refine .sk rfl 16 ?_
  refine .sk rfl 16 ?_
  refine .e rfl (fun H=>x_pkT (H.g 19 16) (H.c _)) ?_
  refine .dk (fun u=>rciV r::u1 0::u1 1::sq u 0 22 (us 9)) K4 bel fun u2 w2 D bel=>?_
  have E2_21:=D.q 21
  replace B2:=D.k B2
  clear D
  refine wp_cond_true (by exact E2_21) ?_
  refine gs 1 (Amb Z0 W) fun _ K10=>?_
  refine .mc rfl ?_
  refine .dk (fun u=>rciV r::u1 0::u 0::sq u2 0 22 (us 9)) K10 bel fun u3 w3 D bel=>?_
  have E3_0:=D.q 0
  clear D
  exact wp_ret (rt rfl E3_0 rfl bel)
end Go.Proofs.YtcpjdjnaipbieaaGreat
namespace Go.Proofs.YtcpjdjnaipbieaaGreat
open Go.RowKit Rgn
variable {W:World}
theorem c11ChkO (c:Ci) (p0:ciOk (rci c) = true):Calls Tryz.prog 78 #[ciV c] W (RetV (.int .i64 0) W):=by
 obtain ⟨h1,h2,h3⟩:=ciOk_c p0
 exact reV (congrArg (Value.int .i64) (cchk_0 h2 h3)) (c11ChkT c h1)
theorem c11ChkN (r:RCi) (p0:ciOk r = false):Calls Tryz.prog 78 #[rciV r] W (RetV (.int .i64 2) W):=by
 cases h:(fmay r.a && gmay r.b && fmay r.c) with
 | false=>exact c11ChkA r h
 | true =>
  obtain ⟨h1,h2,h3⟩:=and_3 h
  obtain ⟨c,rfl,hf⟩:=ci_of h1 h2 h3
  exact reV (congrArg (Value.int .i64) (cchk_2 fun e=>ciOk_no p0 ⟨c,rfl,hf,e.1,e.2⟩)) (c11ChkT c hf)
end Go.Proofs.YtcpjdjnaipbieaaGreat
namespace Go.Proofs.YtcpjdjnaipbieaaGreat
open Go.RowKit Rgn
theorem mbfits_no {m:Mb} (h:((gerr m.a) != 0) = true ∨ ((gerr m.b) != 0) = true ∨ ((gerr m.c) != 0) = true ∨ ((gerr m.d) != 0) = true):mbfits (rmb m) = false:=by
 show (gfits (rg m.a) && gfits (rg m.b) && gfits (rg m.c) && gfits (rg m.d)) = false
 rcases h with h | h | h | h <;> rw [gerr_1 h] <;> simp
theorem gerr_4 {x:Cx} (h:((gerr x) != 0) = true):gerr x = 4:=by unfold gerr; rw [if_neg (by rw [gerr_1 h]; decide)]
theorem mcut_no {m:Mb} {e:Int} (he:e = 4) (h:mbfits (rmb m) = false):Value.tuple #[.agg zMb,.int .i64 e] = .tuple #[rmbV (mbcut m),.int .i64 (mberr m)]:=by
 subst he
 unfold mbcut mberr
 rw [if_neg (by rw [h]; decide),if_neg (by rw [h]; decide)]
theorem mcut_1 {m:Mb} (h:((gerr m.a) != 0) = true):Value.tuple #[.agg zMb,.int .i64 (gerr m.a)] = .tuple #[rmbV (mbcut m),.int .i64 (mberr m)]:=mcut_no (gerr_4 h) (mbfits_no (.inl h))
theorem mcut_2 {m:Mb} (h:((gerr m.b) != 0) = true):Value.tuple #[.agg zMb,.int .i64 (gerr m.b)] = .tuple #[rmbV (mbcut m),.int .i64 (mberr m)]:=mcut_no (gerr_4 h) (mbfits_no (.inr (.inl h)))
theorem mcut_3 {m:Mb} (h:((gerr m.c) != 0) = true):Value.tuple #[.agg zMb,.int .i64 (gerr m.c)] = .tuple #[rmbV (mbcut m),.int .i64 (mberr m)]:=mcut_no (gerr_4 h) (mbfits_no (.inr (.inr (.inl h))))
theorem mcut_4 {m:Mb} (h:((gerr m.d) != 0) = true):Value.tuple #[.agg zMb,.int .i64 (gerr m.d)] = .tuple #[rmbV (mbcut m),.int .i64 (mberr m)]:=mcut_no (gerr_4 h) (mbfits_no (.inr (.inr (.inr h))))
theorem gcut_ok {x:Cx} (h:gfits (rg x) = true):gcut x = rg x:=by unfold gcut; rw [if_pos h]
theorem mcut_y {m:Mb} (h1:((gerr m.a) != 0) = false) (h2:((gerr m.b) != 0) = false) (h3:((gerr m.c) != 0) = false) (h4:((gerr m.d) != 0) = false):Value.tuple #[.agg (rmbC (RMb.mk (gcut m.a) (gcut m.b) (gcut m.c) (gcut m.d) m.t)),.int .i64 0] = .tuple #[rmbV (mbcut m),.int .i64 (mberr m)]:=by
 have e:mbfits (rmb m) = true:=by
  show (gfits (rg m.a) && gfits (rg m.b) && gfits (rg m.c) && gfits (rg m.d)) = true
  rw [gerr_0 h1,gerr_0 h2,gerr_0 h3,gerr_0 h4]; rfl
 unfold mbcut mberr
 rw [if_pos e,if_pos e,gcut_ok (gerr_0 h1),gcut_ok (gerr_0 h2),gcut_ok (gerr_0 h3),gcut_ok (gerr_0 h4)]
end Go.Proofs.YtcpjdjnaipbieaaGreat
namespace Go.Proofs.YtcpjdjnaipbieaaGreat
open Go.RowKit Rgn Eng
set_option maxHeartbeats 4000000
set_option maxRecDepth 100000
variable {S:Nat → Prop} {W:World}
noncomputable abbrev tldC (x:Cx):List Value:=(rgC (gcut x)).toList ++ [.int .i64 (gerr x)]
abbrev shT:SV:=.tup [.agg (ks 0 8),.o (.k 8)]
theorem mtTold {v0:Value} (m:Mb) (t0:(MatP m).p S v0 W) (p0:ht m.a.re + ht m.a.im + ht m.b.re + ht m.b.im + ht m.c.re + ht m.c.im + ht m.d.re + ht m.d.im ≤ 67108864) (p1:m.piv.zero = false) :
  Calls Tryz.prog 145 #[v0] W (RetV (.tuple #[.agg #[.bool ((((mbcut m.nrm).a).re).a).n,.string ((((mbcut m.nrm).a).re).a).s,.bool ((((mbcut m.nrm).a).re).b).n,.string ((((mbcut m.nrm).a).re).b).s,.bool ((((mbcut m.nrm).a).im).a).n,.string ((((mbcut m.nrm).a).im).a).s,.bool ((((mbcut m.nrm).a).im).b).n,.string ((((mbcut m.nrm).a).im).b).s,.bool ((((mbcut m.nrm).b).re).a).n,.string ((((mbcut m.nrm).b).re).a).s,.bool ((((mbcut m.nrm).b).re).b).n,.string ((((mbcut m.nrm).b).re).b).s,.bool ((((mbcut m.nrm).b).im).a).n,.string ((((mbcut m.nrm).b).im).a).s,.bool ((((mbcut m.nrm).b).im).b).n,.string ((((mbcut m.nrm).b).im).b).s,.bool ((((mbcut m.nrm).c).re).a).n,.string ((((mbcut m.nrm).c).re).a).s,.bool ((((mbcut m.nrm).c).re).b).n,.string ((((mbcut m.nrm).c).re).b).s,.bool ((((mbcut m.nrm).c).im).a).n,.string ((((mbcut m.nrm).c).im).a).s,.bool ((((mbcut m.nrm).c).im).b).n,.string ((((mbcut m.nrm).c).im).b).s,.bool ((((mbcut m.nrm).d).re).a).n,.string ((((mbcut m.nrm).d).re).a).s,.bool ((((mbcut m.nrm).d).re).b).n,.string ((((mbcut m.nrm).d).re).b).s,.bool ((((mbcut m.nrm).d).im).a).n,.string ((((mbcut m.nrm).d).im).a).s,.bool ((((mbcut m.nrm).d).im).b).n,.string ((((mbcut m.nrm).d).im).b).s,.bool ((mbcut m.nrm).t)],.int .i64 (mberr m.nrm)]) W):=by
 have h1:=mnrm_ht m
 have h2:=mpiv_ht m
 unfold Cx.hh at h1
 unfold Mb.hh Cx.hh at h2
 refine Run.goP (Pack.nil.s spMat t0) Tryz.func145 rfl ?_
 refine Run.cR spMat (fun β ℓ w H=>mtNorm m (MatP.mk (H.f 0) (H.f 1) (H.f 2) (H.f 3) (H.f 4) (H.f 5) (H.f 6) (H.f 7)) (by omega) p1) ?_
 refine Run.cV (tldC m.nrm.a) shT (fun β ℓ w H=>eTold m.nrm.a (NumP.mk (H.f 8) (H.f 9)) (by omega)) ?_
 refine Run.ic (gerr m.nrm.a) 0 (gerr m.nrm.a != 0) ?_
 rcases Bool.eq_false_or_eq_true (gerr m.nrm.a != 0) with c1 | c1
 · refine Run.kn c1 ?_
   exact Run.rV (mcut_1 c1)
 refine Run.kn c1 ?_
 refine Run.cV (tldC m.nrm.b) shT (fun β ℓ w H=>eTold m.nrm.b (NumP.mk (H.f 10) (H.f 11)) (by omega)) ?_
 refine Run.ic (gerr m.nrm.b) 0 (gerr m.nrm.b != 0) ?_
 rcases Bool.eq_false_or_eq_true (gerr m.nrm.b != 0) with c2 | c2
 · refine Run.kn c2 ?_
   exact Run.rV (mcut_2 c2)
 refine Run.kn c2 ?_
 refine Run.cV (tldC m.nrm.c) shT (fun β ℓ w H=>eTold m.nrm.c (NumP.mk (H.f 12) (H.f 13)) (by omega)) ?_
 refine Run.ic (gerr m.nrm.c) 0 (gerr m.nrm.c != 0) ?_
 rcases Bool.eq_false_or_eq_true (gerr m.nrm.c != 0) with c3 | c3
 · refine Run.kn c3 ?_
   exact Run.rV (mcut_3 c3)
 refine Run.kn c3 ?_
 refine Run.cV (tldC m.nrm.d) shT (fun β ℓ w H=>eTold m.nrm.d (NumP.mk (H.f 14) (H.f 15)) (by omega)) ?_
 refine Run.ic (gerr m.nrm.d) 0 (gerr m.nrm.d != 0) ?_
 rcases Bool.eq_false_or_eq_true (gerr m.nrm.d != 0) with c4 | c4
 · refine Run.kn c4 ?_
   exact Run.rV (mcut_4 c4)
 refine Run.kn c4 ?_
 exact Run.rV (mcut_y c1 c2 c3 c4)
end Go.Proofs.YtcpjdjnaipbieaaGreat
namespace Go.Proofs.YtcpjdjnaipbieaaGreat
open Go.RowKit Rgn
def Mb.isB (m:Mb):Cx:=if m.c.zero = true then (if ((Cx.ofInt (1:Int) (0:Int)).sub m.a.conj).zero = true then Cx.ofInt (0:Int) (1:Int) else (Cx.ofInt (1:Int) (0:Int)).sub m.a.conj) else m.d
def Mb.isC (m:Mb):Cx:=if m.c.zero = true then (m.isB.mul m.b).neg else m.b.neg
def Mb.isA (m:Mb):Rat:=if m.c.zero = true then ((0:Int):Rat) else ((1:Int):Rat)
def Mb.isK (m:Mb):Ci:=⟨m.isA,m.isB,m.isC.re⟩
def Mb.isOk (m:Mb):Bool:=m.t && (m.isC.im.num.sign == 0) && m.isK.pos && decide (m.isK.nrm.over.nrm = m)
def Mb.isR (m:Mb):RCi:=if m.isOk = true then cicut m.isK.nrm else rzCi
def Mb.isE (m:Mb):Int:=if m.isOk = true then cierr m.isK.nrm else 7
theorem cmul_comm (x y:Cx):x.mul y = y.mul x:=Cx.ext' (by show x.re * y.re - x.im * y.im = y.re * x.re - y.im * x.im; grind) (by show x.re * y.im + x.im * y.re = y.re * x.im + y.im * x.re; grind)
theorem cmul_one (x:Cx):x.mul (Cx.ofInt (1:Int) (0:Int)) = x:=by
 have c1:((1:Int):Rat) = 1:=rfl
 have c0:((0:Int):Rat) = 0:=rfl
 exact Cx.ext' (by show x.re * ((1:Int):Rat) - x.im * ((0:Int):Rat) = x.re; rw [c1,c0]; grind) (by show x.re * ((0:Int):Rat) + x.im * ((1:Int):Rat) = x.im; rw [c1,c0]; grind)
theorem is_w0 {m:Mb} (h:m.c.zero = false):m.isK = ⟨Rat.divInt (1:Int) (1:Int),m.d,(m.b.mul (Cx.ofInt (1:Int) (0:Int))).neg.re⟩ ∧ m.isC.im = (m.b.mul (Cx.ofInt (1:Int) (0:Int))).neg.im:=by
 have h' : ¬ m.c.zero = true:=by rw [h]; decide
 unfold Mb.isK Mb.isC Mb.isB Mb.isA
 rw [if_neg h', if_neg h', if_neg h', cmul_one,divInt_one]
 exact ⟨rfl,rfl⟩
theorem is_w1 {m:Mb} (h:m.c.zero = true) (h2:((Cx.ofInt (1:Int) (0:Int)).sub m.a.conj).zero = false):m.isK = ⟨0,(Cx.ofInt (1:Int) (0:Int)).sub m.a.conj,(m.b.mul ((Cx.ofInt (1:Int) (0:Int)).sub m.a.conj)).neg.re⟩ ∧ m.isC.im = (m.b.mul ((Cx.ofInt (1:Int) (0:Int)).sub m.a.conj)).neg.im:=by
 have h' : ¬ ((Cx.ofInt (1:Int) (0:Int)).sub m.a.conj).zero = true:=by rw [h2]; decide
 have hB:m.isB = (Cx.ofInt (1:Int) (0:Int)).sub m.a.conj:=by unfold Mb.isB; rw [if_pos h,if_neg h']
 have hC:m.isC = (m.b.mul ((Cx.ofInt (1:Int) (0:Int)).sub m.a.conj)).neg:=by unfold Mb.isC; rw [if_pos h,hB,cmul_comm]
 unfold Mb.isK Mb.isA
 rw [if_pos h,hB,hC]
 exact ⟨rfl,rfl⟩
theorem is_w2 {m:Mb} (h:m.c.zero = true) (h2:((Cx.ofInt (1:Int) (0:Int)).sub m.a.conj).zero = true):m.isK = ⟨0,Cx.ofInt (0:Int) (1:Int),(m.b.mul (Cx.ofInt (0:Int) (1:Int))).neg.re⟩ ∧ m.isC.im = (m.b.mul (Cx.ofInt (0:Int) (1:Int))).neg.im:=by
 have hB:m.isB = Cx.ofInt (0:Int) (1:Int):=by unfold Mb.isB; rw [if_pos h,if_pos h2]
 have hC:m.isC = (m.b.mul (Cx.ofInt (0:Int) (1:Int))).neg:=by unfold Mb.isC; rw [if_pos h,hB,cmul_comm]
 unfold Mb.isK Mb.isA
 rw [if_pos h,hB,hC]
 exact ⟨rfl,rfl⟩
section
variable {m:Mb} {k:Ci} {q:Rat}
theorem is_n {m:Mb} (h:m.isOk = false):Value.tuple #[.agg zCi,.int .i64 7] = .tuple #[rciV m.isR,.int .i64 m.isE]:=by
 have h' : ¬ m.isOk = true:=by rw [h]; decide
 unfold Mb.isR Mb.isE
 rw [if_neg h', if_neg h']
theorem ok_t (h:m.t = false):m.isOk = false:=by
 unfold Mb.isOk; rw [h]; rfl
theorem ok_i (e:m.isK = k ∧ m.isC.im = q) (h:(q.num.sign != 0) = true):m.isOk = false:=by
 have:(m.isC.im.num.sign == 0) = false:=by rw [e.2]; simpa using h
 unfold Mb.isOk; rw [this]; simp
theorem ok_p (e:m.isK = k ∧ m.isC.im = q) (h:decide (k.pow.num.sign ≤ 0) = true):m.isOk = false:=by
 have:m.isK.pos = false:=by unfold Ci.pos; rw [e.1,h]; rfl
 unfold Mb.isOk; rw [this]; simp
theorem mbcut_iff {x:Mb} (hm:mbOk (rmb m) = true):decide (mbcut x = rmb m) = decide (x = m):=by
 obtain ⟨hf,hz,_⟩:=mbOk_c hm
 unfold mbcut
 split
 ·exact rmb_dec x m
 ·rename_i hn
  rw [decide_eq_false (fun e:x = m=>hn (e ▸ hf)),decide_eq_false]
  intro e
  have h2:=congrArg (fun r:RMb=>gfits r.a) e
  have h3:=congrArg (fun r:RMb=>r.a.re.b.s) e
  have h4:(⟨#[]⟩:ByteArray) = bS (m.a.re.den:Int).natAbs:=h3
  have h5:=bS_empty (m.a.re.den:Int).natAbs
  rw [← h4] at h5
  have h6:=m.a.re.den_pos
  simp at h5
  omega
theorem ok_b (hm:mbOk (rmb m) = true) (e:m.isK = k ∧ m.isC.im = q) (h:(!decide (mbcut k.nrm.over.nrm = rmb m)) = true):m.isOk = false:=by
 rw [mbcut_iff hm] at h
 have:decide (m.isK.nrm.over.nrm = m) = false:=by rw [e.1]; simpa using h
 unfold Mb.isOk; rw [this]; simp
theorem ok_y (hm:mbOk (rmb m) = true) (e:m.isK = k ∧ m.isC.im = q) (h1:m.t = true) (h2:(q.num.sign != 0) = false) (h3:decide (k.pow.num.sign ≤ 0) = false) (h4:(!decide (mbcut k.nrm.over.nrm = rmb m)) = false):m.isOk = true:=by
 rw [mbcut_iff hm] at h4
 unfold Mb.isOk Ci.pos
 rw [e.1,e.2,h3]
 simp at h2 h4
 simp [h1,h2,h4]
theorem is_y (e:m.isK = k ∧ m.isC.im = q) (h:m.isOk = true):Value.tuple #[rciV (cicut k.nrm),.int .i64 (cierr k.nrm)] = .tuple #[rciV m.isR,.int .i64 m.isE]:=by
 unfold Mb.isR Mb.isE
 rw [if_pos h,if_pos h,e.1]
end
theorem over_det (c:Ci):c.over.det = ⟨-c.pow,0⟩:=by
 refine Cx.ext' ?_ ?_
 ·show (-c.b.re * c.b.re - - -c.b.im * c.b.im) - (-c.c * c.a - 0 * 0) = -(c.b.re * c.b.re + c.b.im * c.b.im - c.a * c.c)
  grind
 ·show (-c.b.re * c.b.im + - -c.b.im * c.b.re) - (-c.c * 0 + 0 * c.a) = 0
  grind
theorem over_piv {c:Ci} (h:c.pos = true):c.over.piv.zero = false:=by
 refine det_piv ?_
 rw [over_det]
 cases e:Cx.zero ⟨-c.pow,0⟩ with
 | false=>rfl
 | true =>
  have h1:-c.pow = 0:=congrArg Cx.re (zero_iff.1 e)
  have h2:c.pow = 0:=by grind
  have:=pos_le h
  rw [h2] at this
  exact absurd this (by decide)
theorem pow_nrm (c:Ci):c.nrm.pow = c.pow * (c.piv⁻¹ * c.piv⁻¹):=by
 show (c.b.re * c.piv⁻¹) * (c.b.re * c.piv⁻¹) + (c.b.im * c.piv⁻¹) * (c.b.im * c.piv⁻¹) - (c.a * c.piv⁻¹) * (c.c * c.piv⁻¹) = (c.b.re * c.b.re + c.b.im * c.b.im - c.a * c.c) * (c.piv⁻¹ * c.piv⁻¹)
 grind
theorem pos_iff {c:Ci}:c.pos = true ↔ 0 < c.pow:=by
 unfold Ci.pos
 rw [Bool.not_eq_true', decide_eq_false_iff_not]
 have h:=sign3 c.pow.num
 have h1:0 ≤ c.pow.num ↔ 0 ≤ c.pow:=Rat.num_nonneg
 have h2:c.pow.num = 0 ↔ c.pow = 0:=Rat.num_eq_zero
 have h3:0 ≤ c.pow ↔ 0 < c.pow ∨ 0 = c.pow:=Rat.le_iff_lt_or_eq
 constructor
 ·intro hp
  have h4:0 ≤ c.pow:=h1.1 (by omega)
  rcases h3.1 h4 with h5 | h5
  ·exact h5
  ·have:=h2.2 h5.symm; omega
 ·intro hp
  have h4:0 ≤ c.pow.num:=h1.2 (h3.2 (.inl hp))
  have h5:c.pow.num ≠ 0:=fun e=>by
   have:=h2.1 e
   rw [this] at hp
   exact absurd hp (by decide)
  omega
theorem pos_nrm {c:Ci} (h:c.pos = true):c.nrm.pos = true:=by
 rw [pos_iff] at h ⊢
 rw [pow_nrm]
 have hp:=piv_ne (pos_flat (pos_iff.2 h))
 have hi:c.piv⁻¹ ≠ 0:=fun e=>hp (by rw [← Rat.inv_inv c.piv,e,Rat.inv_zero])
 refine Rat.mul_pos h ?_
 have h2:=sq_nonneg c.piv⁻¹
 rcases Rat.le_iff_lt_or_eq.1 h2 with h3 | h3
 ·exact h3
 ·rcases Rat.mul_eq_zero.1 h3.symm with h4 | h4 <;> exact absurd h4 hi
theorem nrm_le {k:Ci} (h:ht k.a + ht k.b.re + ht k.b.im + ht k.c ≤ 1000000):ht k.nrm.a + ht k.nrm.b.re + ht k.nrm.b.im + ht k.nrm.c ≤ 5000000:=by
 have h1:=nrm_ht k
 have h2:=piv_ht k
 unfold Ci.hh Cx.hh at h2
 omega
theorem over_le {k:Ci} (h:ht k.a + ht k.b.re + ht k.b.im + ht k.c ≤ 10000000):ht k.over.a.re + ht k.over.a.im + ht k.over.b.re + ht k.over.b.im + ht k.over.c.re + ht k.over.c.im + ht k.over.d.re + ht k.over.d.im ≤ 67108864:=by
 have h1:=ht_neg k.b.re
 have h2:=ht_neg (-k.b.im)
 have h3:=ht_neg k.b.im
 have h4:=ht_neg k.c
 have h5:=ht_zero
 show ht (-k.b.re) + ht (- -k.b.im) + ht (-k.c) + ht (0:Rat) + ht k.a + ht (0:Rat) + ht k.b.re + ht k.b.im ≤ _
 omega
theorem pos_of {k:Ci} (h:decide (k.pow.num.sign ≤ 0) = false):k.pos = true:=by unfold Ci.pos; rw [h]; rfl
end Go.Proofs.YtcpjdjnaipbieaaGreat
namespace Go.Proofs.YtcpjdjnaipbieaaGreat
open Go.RowKit Rgn
def isCb (r:RCi) (e:Int) (q:RCi):Bool:=if cifits q = true then decide (r = q) && (e == 0) else decide (r = rzCi) && (e == 4)
section
variable {r q:RCi} {e:Int}
theorem isC_1 (h:(!cifits q) = true) (h2:decide (r = rzCi) = true):Value.bool (e == 4) = .bool (isCb r e q):=by
 unfold isCb; rw [if_neg (by simpa using h),h2]; simp
theorem isC_2 (h:(!cifits q) = true) (h2:decide (r = rzCi) = false):Value.bool false = .bool (isCb r e q):=by
 unfold isCb; rw [if_neg (by simpa using h),h2]; simp
theorem isC_3 (h:(!cifits q) = false) (h2:decide (r = q) = true):Value.bool (e == 0) = .bool (isCb r e q):=by
 unfold isCb; rw [if_pos (by simpa using h),h2]; simp
theorem isC_4 (h:(!cifits q) = false) (h2:decide (r = q) = false):Value.bool false = .bool (isCb r e q):=by
 unfold isCb; rw [if_pos (by simpa using h),h2]; simp
end
theorem isC_ok (k:Ci):isCb (cicut k) (cierr k) (rci k) = true:=by
 unfold isCb cicut cierr
 by_cases h:cifits (rci k) = true
 ·rw [if_pos h,if_pos h,if_pos h]; simp
 ·rw [if_neg h,if_neg h,if_neg h]; simp
def lg1 (r:RW):Bool:=decide (80 < (r.s.size:Int)) && decide ((r.s.size:Int) ≤ 1024)
def lgF (r:RF):Bool:=lg1 r.a || lg1 r.b
def lgG (r:RG):Bool:=lgF r.re || lgF r.im
section
variable {r:RF}
theorem lg_1 (h4:decide (80 < ((r.a.s.size:Nat):Int)) = true) (h5:decide (((r.a.s.size:Nat):Int) ≤ 1024) = true):Value.bool true = .bool (lgF r):=by unfold lgF lg1; rw [h4,h5]; rfl
theorem lg_2 (h4:decide (80 < ((r.a.s.size:Nat):Int)) = true) (h5:decide (((r.a.s.size:Nat):Int) ≤ 1024) = false) (h6:decide (80 < ((r.b.s.size:Nat):Int)) = true):Value.bool (decide (((r.b.s.size:Nat):Int) ≤ 1024)) = .bool (lgF r):=by unfold lgF lg1; rw [h4,h5,h6]; simp
theorem lg_3 (h4:decide (80 < ((r.a.s.size:Nat):Int)) = true) (h5:decide (((r.a.s.size:Nat):Int) ≤ 1024) = false) (h6:decide (80 < ((r.b.s.size:Nat):Int)) = false):Value.bool false = .bool (lgF r):=by unfold lgF lg1; rw [h4,h5,h6]; rfl
theorem lg_4 (h4:decide (80 < ((r.a.s.size:Nat):Int)) = false) (h6:decide (80 < ((r.b.s.size:Nat):Int)) = true):Value.bool (decide (((r.b.s.size:Nat):Int) ≤ 1024)) = .bool (lgF r):=by unfold lgF lg1; rw [h4,h6]; simp
theorem lg_5 (h4:decide (80 < ((r.a.s.size:Nat):Int)) = false) (h6:decide (80 < ((r.b.s.size:Nat):Int)) = false):Value.bool false = .bool (lgF r):=by unfold lgF lg1; rw [h4,h6]; rfl
end
end Go.Proofs.YtcpjdjnaipbieaaGreat
namespace Go.Proofs.YtcpjdjnaipbieaaGreat
open Go.RowKit Rgn
set_option maxHeartbeats 4000000
set_option maxRecDepth 100000
variable {S:Nat → Prop} {W:World}
theorem eRatF0 (r:RF) (p0:wformed r.a = false) :
  Calls Tryz.prog 198 #[rfV r] W (RetV (.pointer none) W):=by
 have bel:=b0 W
 go_enter Tryz.func198,Tryz.ntmps198
 refine gs 2 (Amb Z0 W) fun _ K1=>?_
 refine .bx rfl (fun H=>H.v 0 (rfV r)) ?_
 refine .mc rfl ?_
 refine .dk (fun u=>rfV r::u 0::u 1::us 61) K1 bel fun u1 w1 D bel=>?_
 obtain ⟨b2,E1_0,A2,B2⟩:=D.nw 0
 have E1_1:=D.q 1
 clear D
 refine wp_seq_k fun _ K3=>?_
 refine gs 35 (Amb Z0 W) fun _ K4=>?_
 refine .fz rfl 1 0 E1_0 ?_
 refine .lp rfl 0 (rwC r.a) B2 ?_
 refine .cK rfl (V:=.bool false) Tryz.func256 (fun H=>⟨_,ar1 (H.g 7 1),reV (congrArg Value.bool p0) (eFormed _)⟩) ?_
 refine .e rfl (V:=.bool true) (fun H=>x_not (H.g 8 2)) ?_
 refine .mv rfl 3 ?_
 refine .sk rfl 4 ?_
 refine .sk rfl 4 ?_
 refine .sk rfl 4 ?_
 refine .sk rfl 4 ?_
 refine .e rfl (fun H=>x_pkT (H.g 10 4) (H.c _)) ?_
 refine .mv rfl 9 ?_
 refine .sk rfl 10 ?_
 refine .sk rfl 10 ?_
 refine .sk rfl 10 ?_
 refine .e rfl (fun H=>x_pkT (H.g 16 10) (H.c _)) ?_
 refine .mv rfl 14 ?_
 refine .sk rfl 15 ?_
 refine .sk rfl 15 ?_
 refine .sk rfl 15 ?_
 refine .sk rfl 15 ?_
 refine .e rfl (fun H=>x_pkT (H.g 21 15) (H.c _)) ?_
 refine .mv rfl 20 ?_
 refine .sk rfl 21 ?_
 refine .sk rfl 21 ?_
 refine .sk rfl 21 ?_
 refine .sk rfl 21 ?_
 refine .sk rfl 21 ?_
 refine .e rfl (fun H=>x_pkT (H.g 27 21) (H.c _)) ?_
 refine .mv rfl 27 ?_
 refine .sk rfl 28 ?_
 refine .sk rfl 28 ?_
 refine .sk rfl 28 ?_
 refine .sk rfl 28 ?_
 refine .sk rfl 28 ?_
 refine .e rfl (fun H=>x_pkT (H.g 34 28) (H.c _)) ?_
 refine .dk (fun u=>rfV r::u1 0::u1 1::U::U::U::sq u 0 35 (us 23)) K4 bel fun u2 w2 D bel=>?_
 have E2_34:=D.q 34
 replace B2:=D.k B2
 clear D
 refine wp_cond_true (by exact E2_34) ?_
 refine gs 1 (Amb Z0 W) fun _ K5=>?_
 refine .mc rfl ?_
 refine .dk (fun u=>rfV r::u1 0::u 0::U::U::U::sq u2 0 35 (us 23)) K5 bel fun u3 w3 D bel=>?_
 have E3_0:=D.q 0
 clear D
 exact wp_ret (rt rfl E3_0 rfl bel)
theorem eRatF1 (r:RF) (p0:wformed r.a = true) (p1:wformed r.b = false) :
  Calls Tryz.prog 198 #[rfV r] W (RetV (.pointer none) W):=by
 have bel:=b0 W
 go_enter Tryz.func198,Tryz.ntmps198
 refine gs 2 (Amb Z0 W) fun _ K1=>?_
 refine .bx rfl (fun H=>H.v 0 (rfV r)) ?_
 refine .mc rfl ?_
 refine .dk (fun u=>rfV r::u 0::u 1::us 61) K1 bel fun u1 w1 D bel=>?_
 obtain ⟨b2,E1_0,A2,B2⟩:=D.nw 0
 have E1_1:=D.q 1
 clear D
 refine wp_seq_k fun _ K3=>?_
 refine gs 35 (Amb Z0 W) fun _ K4=>?_
 refine .fz rfl 1 0 E1_0 ?_
 refine .lp rfl 0 (rwC r.a) B2 ?_
 refine .cK rfl (V:=.bool true) Tryz.func256 (fun H=>⟨_,ar1 (H.g 7 1),reV (congrArg Value.bool p0) (eFormed _)⟩) ?_
 refine .e rfl (V:=.bool false) (fun H=>x_not (H.g 8 2)) ?_
 refine .mv rfl 3 ?_
 refine .fz rfl 1 2 E1_0 ?_ (hg:=gq 4 rfl)
 refine .lp rfl 5 (rwC r.b) B2 ?_ (hg:=gq 4 rfl)
 refine .cK rfl (V:=.bool false) Tryz.func256 (fun H=>⟨_,ar1 (H.g 12 6),reV (congrArg Value.bool p1) (eFormed _)⟩) ?_ (hg:=gq 4 rfl)
 refine .e rfl (V:=.bool true) (fun H=>x_not (H.g 13 7)) ?_ (hg:=gq 4 rfl)
 refine .e rfl (fun H=>x_pkF (H.g 10 4) (H.g 14 8)) ?_
 refine .mv rfl 9 ?_
 refine .sk rfl 10 ?_
 refine .sk rfl 10 ?_
 refine .sk rfl 10 ?_
 refine .e rfl (fun H=>x_pkT (H.g 16 10) (H.c _)) ?_
 refine .mv rfl 14 ?_
 refine .sk rfl 15 ?_
 refine .sk rfl 15 ?_
 refine .sk rfl 15 ?_
 refine .sk rfl 15 ?_
 refine .e rfl (fun H=>x_pkT (H.g 21 15) (H.c _)) ?_
 refine .mv rfl 20 ?_
 refine .sk rfl 21 ?_
 refine .sk rfl 21 ?_
 refine .sk rfl 21 ?_
 refine .sk rfl 21 ?_
 refine .sk rfl 21 ?_
 refine .e rfl (fun H=>x_pkT (H.g 27 21) (H.c _)) ?_
 refine .mv rfl 27 ?_
 refine .sk rfl 28 ?_
 refine .sk rfl 28 ?_
 refine .sk rfl 28 ?_
 refine .sk rfl 28 ?_
 refine .sk rfl 28 ?_
 refine .e rfl (fun H=>x_pkT (H.g 34 28) (H.c _)) ?_
 refine .dk (fun u=>rfV r::u1 0::u1 1::U::U::U::sq u 0 35 (us 23)) K4 bel fun u2 w2 D bel=>?_
 have E2_34:=D.q 34
 replace B2:=D.k B2
 clear D
 refine wp_cond_true (by exact E2_34) ?_
 refine gs 1 (Amb Z0 W) fun _ K5=>?_
 refine .mc rfl ?_
 refine .dk (fun u=>rfV r::u1 0::u 0::U::U::U::sq u2 0 35 (us 23)) K5 bel fun u3 w3 D bel=>?_
 have E3_0:=D.q 0
 clear D
 exact wp_ret (rt rfl E3_0 rfl bel)
theorem eRatW (g:Int × Int) (p0:fmay (RF.mk (rw g.1) (rw g.2)) = false) :
  Calls Tryz.prog 198 #[wwV g] W (RetV (.pointer none) W):=by
 have b1:hi g.1 ≤ 8 * (bS g.1.natAbs).size + 1:=hi_bytes g.1
 have b2:hi g.2 ≤ 8 * (bS g.2.natAbs).size + 1:=hi_bytes g.2
 have b3:=hi_num (Rat.divInt g.1 g.2)
 have b4:=hi_den (Rat.divInt g.1 g.2)
 have bel:=b0 W
 go_enter Tryz.func198,Tryz.ntmps198
 refine gs 2 (Amb Z0 W) fun _ K1=>?_
 refine .bx rfl (fun H=>H.v 0 (wwV g)) ?_
 refine .mc rfl ?_
 refine .dk (fun u=>wwV g::u 0::u 1::us 61) K1 bel fun u1 w1 D bel=>?_
 obtain ⟨b2,E1_0,A2,B2⟩:=D.nw 0
 have E1_1:=D.q 1
 clear D
 refine wp_seq_k fun _ K3=>?_
 rcases Bool.eq_false_or_eq_true (decide (g.2 < 0)) with c5 | c5
 ·
  have dc5:=of_decide_eq_true c5
  refine gs 35 (Amb Z0 W) fun _ K4=>?_
  refine .fz rfl 1 0 E1_0 ?_
  refine .lp rfl 0 (wC g.1) B2 ?_
  refine .cK rfl (V:=.bool true) Tryz.func256 (fun H=>⟨_,ar1 (H.g 7 1),reV (congrArg Value.bool (wformed_rw _)) (eFormed (rw g.1))⟩) ?_
  refine .e rfl (V:=.bool false) (fun H=>x_not (H.g 8 2)) ?_
  refine .mv rfl 3 ?_
  refine .fz rfl 1 2 E1_0 ?_ (hg:=gq 4 rfl)
  refine .lp rfl 5 (wC g.2) B2 ?_ (hg:=gq 4 rfl)
  refine .cK rfl (V:=.bool true) Tryz.func256 (fun H=>⟨_,ar1 (H.g 12 6),reV (congrArg Value.bool (wformed_rw _)) (eFormed (rw g.2))⟩) ?_ (hg:=gq 4 rfl)
  refine .e rfl (V:=.bool false) (fun H=>x_not (H.g 13 7)) ?_ (hg:=gq 4 rfl)
  refine .e rfl (fun H=>x_pkF (H.g 10 4) (H.g 14 8)) ?_
  refine .mv rfl 9 ?_
  refine .fz rfl 1 2 E1_0 ?_ (hg:=gq 10 rfl)
  refine .fj rfl 11 2 ?_ (hg:=gq 10 rfl)
  refine .e rfl (V:=.bool true) (fun H=>by have e18:=H.g 18 12; have c1:=cell_of (off:=2) (H.b B2) rfl; have k_:=c5; clear H; go_simp <;> first | (simp_all; done) | omega | exact len_gt z0_) ?_ (hg:=gq 10 rfl)
  refine .e rfl (fun H=>x_pkF (H.g 16 10) (H.g 19 13)) ?_
  refine .mv rfl 14 ?_
  refine .sk rfl 15 ?_
  refine .sk rfl 15 ?_
  refine .sk rfl 15 ?_
  refine .sk rfl 15 ?_
  refine .e rfl (fun H=>x_pkT (H.g 21 15) (H.c _)) ?_
  refine .mv rfl 20 ?_
  refine .sk rfl 21 ?_
  refine .sk rfl 21 ?_
  refine .sk rfl 21 ?_
  refine .sk rfl 21 ?_
  refine .sk rfl 21 ?_
  refine .e rfl (fun H=>x_pkT (H.g 27 21) (H.c _)) ?_
  refine .mv rfl 27 ?_
  refine .sk rfl 28 ?_
  refine .sk rfl 28 ?_
  refine .sk rfl 28 ?_
  refine .sk rfl 28 ?_
  refine .sk rfl 28 ?_
  refine .e rfl (fun H=>x_pkT (H.g 34 28) (H.c _)) ?_
  refine .dk (fun u=>wwV g::u1 0::u1 1::U::U::U::sq u 0 35 (us 23)) K4 bel fun u2 w2 D bel=>?_
  have E2_34:=D.q 34
  replace B2:=D.k B2
  clear D
  refine wp_cond_true (by exact E2_34) ?_
  refine gs 1 (Amb Z0 W) fun _ K6=>?_
  refine .mc rfl ?_
  refine .dk (fun u=>wwV g::u1 0::u 0::U::U::U::sq u2 0 35 (us 23)) K6 bel fun u3 w3 D bel=>?_
  have E3_0:=D.q 0
  clear D
  exact wp_ret (rt rfl E3_0 rfl bel)
 ·
  have dc5:=of_decide_eq_false c5
  rcases Bool.eq_false_or_eq_true (decide (g.2.natAbs = 0)) with c7 | c7
  ·
   have dc7:=of_decide_eq_true c7
   refine gs 35 (Amb Z0 W) fun _ K4=>?_
   refine .fz rfl 1 0 E1_0 ?_
   refine .lp rfl 0 (wC g.1) B2 ?_
   refine .cK rfl (V:=.bool true) Tryz.func256 (fun H=>⟨_,ar1 (H.g 7 1),reV (congrArg Value.bool (wformed_rw _)) (eFormed (rw g.1))⟩) ?_
   refine .e rfl (V:=.bool false) (fun H=>x_not (H.g 8 2)) ?_
   refine .mv rfl 3 ?_
   refine .fz rfl 1 2 E1_0 ?_ (hg:=gq 4 rfl)
   refine .lp rfl 5 (wC g.2) B2 ?_ (hg:=gq 4 rfl)
   refine .cK rfl (V:=.bool true) Tryz.func256 (fun H=>⟨_,ar1 (H.g 12 6),reV (congrArg Value.bool (wformed_rw _)) (eFormed (rw g.2))⟩) ?_ (hg:=gq 4 rfl)
   refine .e rfl (V:=.bool false) (fun H=>x_not (H.g 13 7)) ?_ (hg:=gq 4 rfl)
   refine .e rfl (fun H=>x_pkF (H.g 10 4) (H.g 14 8)) ?_
   refine .mv rfl 9 ?_
   refine .fz rfl 1 2 E1_0 ?_ (hg:=gq 10 rfl)
   refine .fj rfl 11 2 ?_ (hg:=gq 10 rfl)
   refine .e rfl (V:=.bool false) (fun H=>by have e18:=H.g 18 12; have c1:=cell_of (off:=2) (H.b B2) rfl; have k_:=c5; clear H; go_simp <;> first | (simp_all; done) | omega | exact len_gt z0_) ?_ (hg:=gq 10 rfl)
   refine .e rfl (fun H=>x_pkF (H.g 16 10) (H.g 19 13)) ?_
   refine .mv rfl 14 ?_
   refine .fz rfl 1 2 E1_0 ?_ (hg:=gq 15 rfl)
   refine .fj rfl 16 3 ?_ (hg:=gq 15 rfl)
   refine .lc rfl 17 B2 ?_ (V:=.string (bS g.2.natAbs)) (hg:=gq 15 rfl)
   refine .e rfl (V:=.bool true) (fun H=>by have e24:=H.g 24 18; have k1:=H.c (.string (ByteArray.mk #[])); have s_:=bS_empty g.2.natAbs; have k_:=c7; clear H; go_simp <;> first | (simp_all; done) | omega | exact len_gt z0_) ?_ (hg:=gq 15 rfl)
   refine .e rfl (fun H=>x_pkF (H.g 21 15) (H.g 25 19)) ?_
   refine .mv rfl 20 ?_
   refine .sk rfl 21 ?_
   refine .sk rfl 21 ?_
   refine .sk rfl 21 ?_
   refine .sk rfl 21 ?_
   refine .sk rfl 21 ?_
   refine .e rfl (fun H=>x_pkT (H.g 27 21) (H.c _)) ?_
   refine .mv rfl 27 ?_
   refine .sk rfl 28 ?_
   refine .sk rfl 28 ?_
   refine .sk rfl 28 ?_
   refine .sk rfl 28 ?_
   refine .sk rfl 28 ?_
   refine .e rfl (fun H=>x_pkT (H.g 34 28) (H.c _)) ?_
   refine .dk (fun u=>wwV g::u1 0::u1 1::U::U::U::sq u 0 35 (us 23)) K4 bel fun u2 w2 D bel=>?_
   have E2_34:=D.q 34
   replace B2:=D.k B2
   clear D
   refine wp_cond_true (by exact E2_34) ?_
   refine gs 1 (Amb Z0 W) fun _ K8=>?_
   refine .mc rfl ?_
   refine .dk (fun u=>wwV g::u1 0::u 0::U::U::U::sq u2 0 35 (us 23)) K8 bel fun u3 w3 D bel=>?_
   have E3_0:=D.q 0
   clear D
   exact wp_ret (rt rfl E3_0 rfl bel)
  ·
   have dc7:=of_decide_eq_false c7
   rcases Bool.eq_false_or_eq_true (decide (1024 < (((bS g.1.natAbs).size:Nat):Int))) with c9 | c9
   ·
    have dc9:=of_decide_eq_true c9
    refine gs 35 (Amb Z0 W) fun _ K4=>?_
    refine .fz rfl 1 0 E1_0 ?_
    refine .lp rfl 0 (wC g.1) B2 ?_
    refine .cK rfl (V:=.bool true) Tryz.func256 (fun H=>⟨_,ar1 (H.g 7 1),reV (congrArg Value.bool (wformed_rw _)) (eFormed (rw g.1))⟩) ?_
    refine .e rfl (V:=.bool false) (fun H=>x_not (H.g 8 2)) ?_
    refine .mv rfl 3 ?_
    refine .fz rfl 1 2 E1_0 ?_ (hg:=gq 4 rfl)
    refine .lp rfl 5 (wC g.2) B2 ?_ (hg:=gq 4 rfl)
    refine .cK rfl (V:=.bool true) Tryz.func256 (fun H=>⟨_,ar1 (H.g 12 6),reV (congrArg Value.bool (wformed_rw _)) (eFormed (rw g.2))⟩) ?_ (hg:=gq 4 rfl)
    refine .e rfl (V:=.bool false) (fun H=>x_not (H.g 13 7)) ?_ (hg:=gq 4 rfl)
    refine .e rfl (fun H=>x_pkF (H.g 10 4) (H.g 14 8)) ?_
    refine .mv rfl 9 ?_
    refine .fz rfl 1 2 E1_0 ?_ (hg:=gq 10 rfl)
    refine .fj rfl 11 2 ?_ (hg:=gq 10 rfl)
    refine .e rfl (V:=.bool false) (fun H=>by have e18:=H.g 18 12; have c1:=cell_of (off:=2) (H.b B2) rfl; have k_:=c5; clear H; go_simp <;> first | (simp_all; done) | omega | exact len_gt z0_) ?_ (hg:=gq 10 rfl)
    refine .e rfl (fun H=>x_pkF (H.g 16 10) (H.g 19 13)) ?_
    refine .mv rfl 14 ?_
    refine .fz rfl 1 2 E1_0 ?_ (hg:=gq 15 rfl)
    refine .fj rfl 16 3 ?_ (hg:=gq 15 rfl)
    refine .lc rfl 17 B2 ?_ (V:=.string (bS g.2.natAbs)) (hg:=gq 15 rfl)
    refine .e rfl (V:=.bool false) (fun H=>by have e24:=H.g 24 18; have k1:=H.c (.string (ByteArray.mk #[])); have s_:=bS_empty g.2.natAbs; have k_:=c7; clear H; go_simp <;> first | (simp_all; done) | omega | exact len_gt z0_) ?_ (hg:=gq 15 rfl)
    refine .e rfl (fun H=>x_pkF (H.g 21 15) (H.g 25 19)) ?_
    refine .mv rfl 20 ?_
    refine .fz rfl 1 0 E1_0 ?_ (hg:=gq 21 rfl)
    refine .fj rfl 22 1 ?_ (hg:=gq 21 rfl)
    refine .lc rfl 23 B2 ?_ (V:=.string (bS g.1.natAbs)) (hg:=gq 21 rfl)
    refine .e rfl (V:=.int .i64 (((bS g.1.natAbs).size:Nat):Int)) (fun H=>by have e30:=H.g 30 24; clear H; go_simp) ?_ (hg:=gq 21 rfl)
    refine .e rfl (V:=.bool true) (fun H=>x_cm (H.g 31 25) (H.c _) c9) ?_ (hg:=gq 21 rfl)
    refine .e rfl (fun H=>x_pkF (H.g 27 21) (H.g 32 26)) ?_
    refine .mv rfl 27 ?_
    refine .sk rfl 28 ?_
    refine .sk rfl 28 ?_
    refine .sk rfl 28 ?_
    refine .sk rfl 28 ?_
    refine .sk rfl 28 ?_
    refine .e rfl (fun H=>x_pkT (H.g 34 28) (H.c _)) ?_
    refine .dk (fun u=>wwV g::u1 0::u1 1::U::U::U::sq u 0 35 (us 23)) K4 bel fun u2 w2 D bel=>?_
    have E2_34:=D.q 34
    replace B2:=D.k B2
    clear D
    refine wp_cond_true (by exact E2_34) ?_
    refine gs 1 (Amb Z0 W) fun _ K10=>?_
    refine .mc rfl ?_
    refine .dk (fun u=>wwV g::u1 0::u 0::U::U::U::sq u2 0 35 (us 23)) K10 bel fun u3 w3 D bel=>?_
    have E3_0:=D.q 0
    clear D
    exact wp_ret (rt rfl E3_0 rfl bel)
   ·
    have dc9:=of_decide_eq_false c9
    refine gs 35 (Amb Z0 W) fun _ K4=>?_
    refine .fz rfl 1 0 E1_0 ?_
    refine .lp rfl 0 (wC g.1) B2 ?_
    refine .cK rfl (V:=.bool true) Tryz.func256 (fun H=>⟨_,ar1 (H.g 7 1),reV (congrArg Value.bool (wformed_rw _)) (eFormed (rw g.1))⟩) ?_
    refine .e rfl (V:=.bool false) (fun H=>x_not (H.g 8 2)) ?_
    refine .mv rfl 3 ?_
    refine .fz rfl 1 2 E1_0 ?_ (hg:=gq 4 rfl)
    refine .lp rfl 5 (wC g.2) B2 ?_ (hg:=gq 4 rfl)
    refine .cK rfl (V:=.bool true) Tryz.func256 (fun H=>⟨_,ar1 (H.g 12 6),reV (congrArg Value.bool (wformed_rw _)) (eFormed (rw g.2))⟩) ?_ (hg:=gq 4 rfl)
    refine .e rfl (V:=.bool false) (fun H=>x_not (H.g 13 7)) ?_ (hg:=gq 4 rfl)
    refine .e rfl (fun H=>x_pkF (H.g 10 4) (H.g 14 8)) ?_
    refine .mv rfl 9 ?_
    refine .fz rfl 1 2 E1_0 ?_ (hg:=gq 10 rfl)
    refine .fj rfl 11 2 ?_ (hg:=gq 10 rfl)
    refine .e rfl (V:=.bool false) (fun H=>by have e18:=H.g 18 12; have c1:=cell_of (off:=2) (H.b B2) rfl; have k_:=c5; clear H; go_simp <;> first | (simp_all; done) | omega | exact len_gt z0_) ?_ (hg:=gq 10 rfl)
    refine .e rfl (fun H=>x_pkF (H.g 16 10) (H.g 19 13)) ?_
    refine .mv rfl 14 ?_
    refine .fz rfl 1 2 E1_0 ?_ (hg:=gq 15 rfl)
    refine .fj rfl 16 3 ?_ (hg:=gq 15 rfl)
    refine .lc rfl 17 B2 ?_ (V:=.string (bS g.2.natAbs)) (hg:=gq 15 rfl)
    refine .e rfl (V:=.bool false) (fun H=>by have e24:=H.g 24 18; have k1:=H.c (.string (ByteArray.mk #[])); have s_:=bS_empty g.2.natAbs; have k_:=c7; clear H; go_simp <;> first | (simp_all; done) | omega | exact len_gt z0_) ?_ (hg:=gq 15 rfl)
    refine .e rfl (fun H=>x_pkF (H.g 21 15) (H.g 25 19)) ?_
    refine .mv rfl 20 ?_
    refine .fz rfl 1 0 E1_0 ?_ (hg:=gq 21 rfl)
    refine .fj rfl 22 1 ?_ (hg:=gq 21 rfl)
    refine .lc rfl 23 B2 ?_ (V:=.string (bS g.1.natAbs)) (hg:=gq 21 rfl)
    refine .e rfl (V:=.int .i64 (((bS g.1.natAbs).size:Nat):Int)) (fun H=>by have e30:=H.g 30 24; clear H; go_simp) ?_ (hg:=gq 21 rfl)
    refine .e rfl (V:=.bool false) (fun H=>x_cm (H.g 31 25) (H.c _) c9) ?_ (hg:=gq 21 rfl)
    refine .e rfl (fun H=>x_pkF (H.g 27 21) (H.g 32 26)) ?_
    refine .mv rfl 27 ?_
    refine .fz rfl 1 2 E1_0 ?_ (hg:=gq 28 rfl)
    refine .fj rfl 29 3 ?_ (hg:=gq 28 rfl)
    refine .lc rfl 30 B2 ?_ (V:=.string (bS g.2.natAbs)) (hg:=gq 28 rfl)
    refine .e rfl (V:=.int .i64 (((bS g.2.natAbs).size:Nat):Int)) (fun H=>by have e37:=H.g 37 31; clear H; go_simp) ?_ (hg:=gq 28 rfl)
    refine .e rfl (V:=.bool (decide (1024 < (((bS g.2.natAbs).size:Nat):Int)))) (fun H=>x_cmp (H.g 38 32) (H.c _)) ?_ (hg:=gq 28 rfl)
    refine .e rfl (fun H=>x_pkF (H.g 34 28) (H.g 39 33)) ?_
    refine .dk (fun u=>wwV g::u1 0::u1 1::U::U::U::sq u 0 35 (us 23)) K4 bel fun u2 w2 D bel=>?_
    have E2_34:=D.q 34
    replace B2:=D.k B2
    clear D
    rcases Bool.eq_false_or_eq_true (decide (1024 < (((bS g.2.natAbs).size:Nat):Int))) with c11 | c11
    ·
     refine wp_cond_true ((E2_34).trans (congrArg Value.bool c11)) ?_
     have dc11:=of_decide_eq_true c11
     refine gs 1 (Amb Z0 W) fun _ K12=>?_
     refine .mc rfl ?_
     refine .dk (fun u=>wwV g::u1 0::u 0::U::U::U::sq u2 0 35 (us 23)) K12 bel fun u3 w3 D bel=>?_
     have E3_0:=D.q 0
     clear D
     exact wp_ret (rt rfl E3_0 rfl bel)
    ·
     refine wp_cond_false ((E2_34).trans (congrArg Value.bool c11)) ?_
     have dc11:=of_decide_eq_false c11
     refine wp_skip ?_
     refine K3 _ _ ?_
     refine gd 8 (Amb Z0 W) fun _ K13=>?_
     refine .fz rfl 1 0 E1_0 ?_
     refine .lp rfl 0 (wC g.1) B2 ?_
     refine .cR rfl [] Tryz.func257 (fun H=>⟨_,ar1 (H.g 42 1),eWhole _ (by first | omega | (have g0:=ht_dvI (a:=g.1) (show 0 < g.2 by omega) (Nat.le_refl (max (hi g.1) (hi g.2))); omega))⟩) ?_
     refine .fz rfl 1 2 E1_0 ?_
     refine .lp rfl 3 (wC g.2) B2 ?_
     refine .cR rfl [] Tryz.func257 (fun H=>⟨_,ar1 (H.g 45 4),eWhole _ (by first | omega | (have g0:=ht_dvI (a:=g.1) (show 0 < g.2 by omega) (Nat.le_refl (max (hi g.1) (hi g.2))); omega))⟩) ?_
     refine .mn rfl 2 [2] ?_
     refine .mn rfl 5 [5] ?_
     refine .dk (fun u=>wwV g::u1 0::u1 1::u 6::u 7::U::sq u2 0 35 (sq u 0 6 (us 17))) K13 bel fun u4 w4 D bel=>?_
     obtain ⟨b14,E4_6,L14,F14⟩:=IntO.elim (D.rr 6)
     obtain ⟨b15,E4_7,L15,F15⟩:=IntO.elim (D.rr 7)
     clear D
     refine gs 5 (Amb Z0 W) fun _ K16=>?_
     refine .al rfl zQ ?_
     refine .mz rfl 3 E4_6 ?_
     refine .mz rfl 4 E4_7 ?_
     refine .cO rfl 0 Tryz.func234 (fun H h0 hz=>⟨_,ar3 (H.p 47 0 h0) (H.g 48 1) (H.g 49 2),qSetFrac _ _ (RatBlk.of hz) (IntO.p (VP.any _ (H.was _ [] (VP.at F14 L14)))) (IntO.p (VP.any _ (H.was _ [] (VP.at F15 L15)))) (by first | omega | (have g0:=ht_dvI (a:=g.1) (show 0 < g.2 by omega) (Nat.le_refl (max (hi g.1) (hi g.2))); omega)) (by first | omega | (have g0:=ht_dvI (a:=g.1) (show 0 < g.2 by omega) (Nat.le_refl (max (hi g.1) (hi g.2))); omega))⟩) ?_
     refine .mo rfl 3 ?_
     refine .dk (fun u=>wwV g::u1 0::u1 1::u4 6::u4 7::u 4::sq u2 0 35 (sq u4 0 6 (sq u 0 4 (us 13)))) K16 bel fun u5 w5 D bel=>?_
     obtain ⟨b17,E5_4,A17,F17⟩:=D.ow 4
     replace F14:=D.o L14 F14
     replace F15:=D.o L15 F15
     have L17:Amb Z0 W b17:=.inr A17
     clear D
     refine wp_seq_k fun _ K18=>?_
     rcases Bool.eq_false_or_eq_true ((icmp ((Rat.divInt g.1 g.2).num) g.1) != 0) with c20 | c20
     ·
      refine gs 12 (Amb Z0 W) fun _ K19=>?_
      refine .mz rfl 5 E5_4 ?_
      refine .cR rfl [] Tryz.func258 (fun H=>⟨_,ar1 (H.g 51 0),qNum _ (H.was _ [] (VP.at F17 L17)) (by first | omega | (have g0:=ht_dvI (a:=g.1) (show 0 < g.2 by omega) (Nat.le_refl (max (hi g.1) (hi g.2))); omega))⟩) ?_
      refine .mz rfl 3 E4_6 ?_
      refine .cK rfl Tryz.func251 (fun H=>⟨_,ar2 (H.r 52 1) (H.g 53 2),bCmp _ _ (IntO.p (SV.any (H.a 1 rfl))) (IntO.p (VP.any _ (H.was _ [] (VP.at F14 L14)))) (by first | omega | (have g0:=ht_dvI (a:=g.1) (show 0 < g.2 by omega) (Nat.le_refl (max (hi g.1) (hi g.2))); omega))⟩) ?_
      refine .e rfl (V:=.bool true) (fun H=>x_cm (H.g 54 3) (H.c _) c20) ?_
      refine .mv rfl 4 ?_
      refine .sk rfl 5 ?_
      refine .sk rfl 5 ?_
      refine .sk rfl 5 ?_
      refine .sk rfl 5 ?_
      refine .sk rfl 5 ?_
      refine .e rfl (fun H=>x_pkT (H.g 56 5) (H.c _)) ?_
      refine .dk (fun u=>wwV g::u1 0::u1 1::u4 6::u4 7::u5 4::sq u2 0 35 (sq u4 0 6 (sq u5 0 4 (sq u 0 12 (U::[]))))) K19 bel fun u6 w6 D bel=>?_
      have E6_11:=D.q 11
      replace F17:=D.o L17 F17
      clear D
      refine wp_cond_true (by exact E6_11) ?_
      refine gs 1 (Amb Z0 W) fun _ K21=>?_
      refine .mc rfl ?_
      refine .dk (fun u=>wwV g::u1 0::u 0::u4 6::u4 7::u5 4::sq u2 0 35 (sq u4 0 6 (sq u5 0 4 (sq u6 0 12 (U::[]))))) K21 bel fun u7 w7 D bel=>?_
      have E7_0:=D.q 0
      clear D
      exact wp_ret (rt rfl E7_0 rfl bel)
     ·
      refine gs 12 (Amb Z0 W) fun _ K19=>?_
      refine .mz rfl 5 E5_4 ?_
      refine .cR rfl [] Tryz.func258 (fun H=>⟨_,ar1 (H.g 51 0),qNum _ (H.was _ [] (VP.at F17 L17)) (by first | omega | (have g0:=ht_dvI (a:=g.1) (show 0 < g.2 by omega) (Nat.le_refl (max (hi g.1) (hi g.2))); omega))⟩) ?_
      refine .mz rfl 3 E4_6 ?_
      refine .cK rfl Tryz.func251 (fun H=>⟨_,ar2 (H.r 52 1) (H.g 53 2),bCmp _ _ (IntO.p (SV.any (H.a 1 rfl))) (IntO.p (VP.any _ (H.was _ [] (VP.at F14 L14)))) (by first | omega | (have g0:=ht_dvI (a:=g.1) (show 0 < g.2 by omega) (Nat.le_refl (max (hi g.1) (hi g.2))); omega))⟩) ?_
      refine .e rfl (V:=.bool false) (fun H=>x_cm (H.g 54 3) (H.c _) c20) ?_
      refine .mv rfl 4 ?_
      refine .mz rfl 5 E5_4 ?_ (hg:=gq 5 rfl)
      refine .cR rfl [] Tryz.func259 (fun H=>⟨_,ar1 (H.g 57 6),qDenom _ (H.was _ [] (VP.at F17 L17)) (by first | omega | (have g0:=ht_dvI (a:=g.1) (show 0 < g.2 by omega) (Nat.le_refl (max (hi g.1) (hi g.2))); omega))⟩) ?_ (hg:=gq 5 rfl)
      refine .mz rfl 4 E4_7 ?_ (hg:=gq 5 rfl)
      refine .cK rfl Tryz.func251 (fun H=>⟨_,ar2 (H.r 58 7) (H.g 59 8),bCmp _ _ (IntO.p (SV.any (H.a 7 rfl))) (IntO.p (VP.any _ (H.was _ [] (VP.at F15 L15)))) (by first | omega | (have g0:=ht_dvI (a:=g.1) (show 0 < g.2 by omega) (Nat.le_refl (max (hi g.1) (hi g.2))); omega))⟩) ?_ (hg:=gq 5 rfl)
      refine .e rfl (V:=.bool ((icmp ((Rat.divInt g.1 g.2).den:Int) g.2) != 0)) (fun H=>x_cmp (H.g 60 9) (H.c _)) ?_ (hg:=gq 5 rfl)
      refine .e rfl (fun H=>x_pkF (H.g 56 5) (H.g 61 10)) ?_
      refine .dk (fun u=>wwV g::u1 0::u1 1::u4 6::u4 7::u5 4::sq u2 0 35 (sq u4 0 6 (sq u5 0 4 (sq u 0 12 (U::[]))))) K19 bel fun u6 w6 D bel=>?_
      have E6_11:=D.q 11
      replace F17:=D.o L17 F17
      clear D
      rcases Bool.eq_false_or_eq_true ((icmp ((Rat.divInt g.1 g.2).den:Int) g.2) != 0) with c22 | c22
      ·
       refine wp_cond_true ((E6_11).trans (congrArg Value.bool c22)) ?_
       refine gs 1 (Amb Z0 W) fun _ K23=>?_
       refine .mc rfl ?_
       refine .dk (fun u=>wwV g::u1 0::u 0::u4 6::u4 7::u5 4::sq u2 0 35 (sq u4 0 6 (sq u5 0 4 (sq u6 0 12 (U::[]))))) K23 bel fun u7 w7 D bel=>?_
       have E7_0:=D.q 0
       clear D
       exact wp_ret (rt rfl E7_0 rfl bel)
      ·
       refine wp_cond_false ((E6_11).trans (congrArg Value.bool c22)) ?_
       refine wp_skip ?_
       refine K18 _ _ ?_
       refine gs 2 (Amb Z0 W) fun _ K24=>?_
       refine .mz rfl 5 E5_4 ?_
       refine .mv rfl 0 ?_
       refine .dk (fun u=>wwV g::u1 0::u 1::u4 6::u4 7::u5 4::sq u2 0 35 (sq u4 0 6 (sq u5 0 4 (sq u6 0 12 (u 0::[]))))) K24 bel fun u8 w8 D bel=>?_
       have E8_1:=D.q 1
       replace F17:=D.o L17 F17
       clear D
       exact wp_ret (rt rfl E8_1 (Bool.noConfusion ((ratw_yes dc5 dc7 dc9 dc11 c20 c22).symm.trans p0)) bel)
end Go.Proofs.YtcpjdjnaipbieaaGreat
namespace Go.Proofs.YtcpjdjnaipbieaaGreat
open Go.RowKit Rgn
theorem eRatF {W:World} (r:RF) (p0:fmay r = false):Calls Tryz.prog 198 #[rfV r] W (RetV (.pointer none) W):=by
 cases h0:wformed r.a with
 | false=>exact eRatF0 r h0
 | true =>
  cases h1:wformed r.b with
  | false=>exact eRatF1 r h0 h1
  | true =>
   obtain ⟨a,b⟩:=r
   obtain ⟨x,rfl⟩:=wformed_ex h0
   obtain ⟨y,rfl⟩:=wformed_ex h1
   exact eRatW (x,y) p0
theorem eRatT {S:Nat → Prop} {W:World} (r:RF) (p0:fmay r = true):Calls Tryz.prog 198 #[rfV r] W (Ret (RatP (valM r)) S W):=by
 obtain ⟨q,rfl⟩:=fmay_ex p0
 rw [valM_rf p0]
 exact eRatOk q (and_tt p0).1
theorem retOf {P:Program} {f:FuncId} {args:Array Value} {W:World} {v:Value} {φ:VP} {S:Nat → Prop} (h:Calls P f args W (RetV v W)) (hp:∀ w,φ.p (fun k=>S k ∨ W.heap.size ≤ k) v w):Calls P f args W (Ret φ S W) :=
 h.mono fun _ w' h=>by
  obtain ⟨h1,h2⟩:=h.is
  exact ⟨v,h1,hp w', h2⟩
theorem eRatA {S:Nat → Prop} {W:World} (r:RF):Calls Tryz.prog 198 #[rfV r] W (Ret (PtrP 0) S W):=by
 cases h:fmay r with
 | false=>exact retOf (eRatF r h) fun _=>⟨_,rfl⟩
 | true =>
  have g:=eRatT (S:=S) (W:=W) r h
  exact g.mono fun _ _ ⟨v,h1,h2,h3⟩=>⟨v,h1,RatN.ptr (RatP.n h2),h3⟩
end Go.Proofs.YtcpjdjnaipbieaaGreat
namespace Go.Proofs.YtcpjdjnaipbieaaGreat
open Go.RowKit Rgn
set_option maxHeartbeats 4000000
set_option maxRecDepth 100000
variable {S:Nat → Prop} {W:World}
theorem eOfR (r:RG) :
  Calls Tryz.prog 197 #[rgV r] W (Ret (VP.tup (NumP (gvm r)) (VP.is (.bool (gmay r)))) S W):=by
 have bel:=b0 W
 go_enter Tryz.func197,Tryz.ntmps197
 rcases Bool.eq_false_or_eq_true (fmay r.re) with c1 | c1
 ·
  rcases Bool.eq_false_or_eq_true (fmay r.im) with c2 | c2
  ·
   refine gs 3 (Amb S W) fun _ K3=>?_
   refine .bx rfl (fun H=>H.v 0 (rgV r)) ?_
   refine .al rfl (#[.pointer none,.pointer none]) ?_
   refine .mc rfl ?_
   refine .dk (fun u=>rgV r::sq u 0 3 (us 17)) K3 bel fun u1 w1 D bel=>?_
   obtain ⟨b4,E1_0,A4,B4⟩:=D.nw 0
   obtain ⟨b5,E1_1,A5,B5⟩:=D.nw 1
   have E1_2:=D.q 2
   have N4_5:=D.n2 0 1 E1_0 E1_1
   clear D
   refine gd 8 (Amb S W) fun _ K6=>?_
   refine .fz rfl 1 0 E1_0 ?_
   refine .lp rfl 0 (rfC r.re) B4 ?_
   refine .cR rfl [] Tryz.func198 (fun H=>⟨_,ar1 (H.g 7 1),eRatT _ (by first | assumption | omega)⟩) ?_
   refine .fz rfl 1 4 E1_0 ?_
   refine .lp rfl 3 (rfC r.im) B4 ?_
   refine .cR rfl [] Tryz.func198 (fun H=>⟨_,ar1 (H.g 10 4),eRatT _ (by first | assumption | omega)⟩) ?_
   refine .mn rfl 2 [2] ?_
   refine .mn rfl 5 [5] ?_
   refine .dk (fun u=>rgV r::sq u1 0 3 (u 6::u 7::sq u 0 6 (us 9))) K6 bel fun u2 w2 D bel=>?_
   obtain ⟨b7,E2_6,L7,F7⟩:=RatP.elim (D.rr 6)
   obtain ⟨b8,E2_7,L8,F8⟩:=RatP.elim (D.rr 7)
   replace B5:=D.k B5
   clear D
   refine gs1 11 (Amb S W) 9 B5 fun _ K9=>?_
   refine .mz rfl 4 E2_6 ?_
   refine .mz rfl 5 E2_7 ?_
   refine .e rfl (V:=.agg #[pt b7,pt b8]) (fun H=>by have e12:=H.g 12 0; have e13:=H.g 13 1; clear H; go_simp) ?_
   refine .mz rfl 4 E2_6 ?_
   refine .e rfl (V:=.bool true) (fun H=>x_pnN (H.g 15 3) (H.c _)) ?_
   refine .mv rfl 4 ?_
   refine .mz rfl 5 E2_7 ?_ (hg:=gq 5 rfl)
   refine .e rfl (V:=.bool true) (fun H=>x_pnN (H.g 18 6) (H.c _)) ?_ (hg:=gq 5 rfl)
   refine .e rfl (fun H=>x_pkT (H.g 17 5) (H.g 19 7)) ?_
   refine .s1 rfl B5 (fun H=>⟨H.z 2 E1_1,H.g 14 2⟩) ?_
   refine .mv rfl 8 ?_
   refine .d1 (fun u=>rgV r::u1 0::u1 1::u 10::u2 6::u2 7::sq u2 0 6 (sq u 0 9 [])) K9 bel A5 fun u3 w3 D bel=>?_
   have E3_10:=D.q 10
   replace B5:=D.ol 9
   replace F7:=D.o L7 F7
   replace F8:=D.o L8 F8
   clear D
   refine wp_ret ?_
   refine ret_ok rfl (by exact results_mix rfl (by exact E1_1) B5 Tryz.underlying178 rfl (by kernel_rfl) (by exact E3_10)) ⟨_,rfl,?_,bel⟩
   exact ⟨_,_,rfl,(NumP.mk (RatP.n (VP.at F7 L7)) (RatP.n (VP.at F8 L8))),(by unfold gmay; rw [c1,c2]; rfl)⟩
  ·
   refine gs 3 (Amb S W) fun _ K10=>?_
   refine .bx rfl (fun H=>H.v 0 (rgV r)) ?_
   refine .al rfl (#[.pointer none,.pointer none]) ?_
   refine .mc rfl ?_
   refine .dk (fun u=>rgV r::sq u 0 3 (us 17)) K10 bel fun u1 w1 D bel=>?_
   obtain ⟨b11,E1_0,A11,B11⟩:=D.nw 0
   obtain ⟨b12,E1_1,A12,B12⟩:=D.nw 1
   have E1_2:=D.q 2
   have N11_12:=D.n2 0 1 E1_0 E1_1
   clear D
   refine gd 8 (Amb S W) fun _ K13=>?_
   refine .fz rfl 1 0 E1_0 ?_
   refine .lp rfl 0 (rfC r.re) B11 ?_
   refine .cR rfl [] Tryz.func198 (fun H=>⟨_,ar1 (H.g 7 1),eRatT _ (by first | assumption | omega)⟩) ?_
   refine .fz rfl 1 4 E1_0 ?_
   refine .lp rfl 3 (rfC r.im) B11 ?_
   refine .cK rfl Tryz.func198 (fun H=>⟨_,ar1 (H.g 10 4),eRatF _ (by first | assumption | omega)⟩) ?_
   refine .mn rfl 2 [2] ?_
   refine .mv rfl 5 ?_
   refine .dk (fun u=>rgV r::sq u1 0 3 (u 6::u 7::sq u 0 6 (us 9))) K13 bel fun u2 w2 D bel=>?_
   obtain ⟨b14,E2_6,L14,F14⟩:=RatP.elim (D.rr 6)
   have E2_7:=D.q 7
   replace B12:=D.k B12
   clear D
   refine gs1 11 (Amb S W) 9 B12 fun _ K15=>?_
   refine .mz rfl 4 E2_6 ?_
   refine .mz rfl 5 E2_7 ?_
   refine .e rfl (V:=.agg #[pt b14,.pointer none]) (fun H=>by have e12:=H.g 12 0; have e13:=H.g 13 1; clear H; go_simp) ?_
   refine .mz rfl 4 E2_6 ?_
   refine .e rfl (V:=.bool true) (fun H=>x_pnN (H.g 15 3) (H.c _)) ?_
   refine .mv rfl 4 ?_
   refine .mz rfl 5 E2_7 ?_ (hg:=gq 5 rfl)
   refine .e rfl (V:=.bool false) (fun H=>x_nnN (H.g 18 6) (H.c _)) ?_ (hg:=gq 5 rfl)
   refine .e rfl (fun H=>x_pkT (H.g 17 5) (H.g 19 7)) ?_
   refine .s1 rfl B12 (fun H=>⟨H.z 2 E1_1,H.g 14 2⟩) ?_
   refine .mv rfl 8 ?_
   refine .d1 (fun u=>rgV r::u1 0::u1 1::u 10::u2 6::u2 7::sq u2 0 6 (sq u 0 9 [])) K15 bel A12 fun u3 w3 D bel=>?_
   have E3_10:=D.q 10
   replace B12:=D.ol 9
   replace F14:=D.o L14 F14
   clear D
   refine wp_ret ?_
   refine ret_ok rfl (by exact results_mix rfl (by exact E1_1) B12 Tryz.underlying178 rfl (by kernel_rfl) (by exact E3_10)) ⟨_,rfl,?_,bel⟩
   exact ⟨_,_,rfl,(NumP.mk (RatP.n (VP.at F14 L14)) (.inl ⟨rfl,by first | exact valM_no c1 | exact valM_no c2⟩)),(by unfold gmay; rw [c1,c2]; rfl)⟩
 ·
  rcases Bool.eq_false_or_eq_true (fmay r.im) with c16 | c16
  ·
   refine gs 3 (Amb S W) fun _ K17=>?_
   refine .bx rfl (fun H=>H.v 0 (rgV r)) ?_
   refine .al rfl (#[.pointer none,.pointer none]) ?_
   refine .mc rfl ?_
   refine .dk (fun u=>rgV r::sq u 0 3 (us 17)) K17 bel fun u1 w1 D bel=>?_
   obtain ⟨b18,E1_0,A18,B18⟩:=D.nw 0
   obtain ⟨b19,E1_1,A19,B19⟩:=D.nw 1
   have E1_2:=D.q 2
   have N18_19:=D.n2 0 1 E1_0 E1_1
   clear D
   refine gd 8 (Amb S W) fun _ K20=>?_
   refine .fz rfl 1 0 E1_0 ?_
   refine .lp rfl 0 (rfC r.re) B18 ?_
   refine .cK rfl Tryz.func198 (fun H=>⟨_,ar1 (H.g 7 1),eRatF _ (by first | assumption | omega)⟩) ?_
   refine .fz rfl 1 4 E1_0 ?_
   refine .lp rfl 3 (rfC r.im) B18 ?_
   refine .cR rfl [] Tryz.func198 (fun H=>⟨_,ar1 (H.g 10 4),eRatT _ (by first | assumption | omega)⟩) ?_
   refine .mv rfl 2 ?_
   refine .mn rfl 5 [5] ?_
   refine .dk (fun u=>rgV r::sq u1 0 3 (u 6::u 7::sq u 0 6 (us 9))) K20 bel fun u2 w2 D bel=>?_
   obtain ⟨b21,E2_7,L21,F21⟩:=RatP.elim (D.rr 7)
   have E2_6:=D.q 6
   replace B19:=D.k B19
   clear D
   refine gs1 11 (Amb S W) 9 B19 fun _ K22=>?_
   refine .mz rfl 4 E2_6 ?_
   refine .mz rfl 5 E2_7 ?_
   refine .e rfl (V:=.agg #[.pointer none,pt b21]) (fun H=>by have e12:=H.g 12 0; have e13:=H.g 13 1; clear H; go_simp) ?_
   refine .mz rfl 4 E2_6 ?_
   refine .e rfl (V:=.bool false) (fun H=>x_nnN (H.g 15 3) (H.c _)) ?_
   refine .mv rfl 4 ?_
   refine .sk rfl 5 ?_
   refine .sk rfl 5 ?_
   refine .e rfl (fun H=>x_pkF (H.g 17 5) (H.c _)) ?_
   refine .s1 rfl B19 (fun H=>⟨H.z 2 E1_1,H.g 14 2⟩) ?_
   refine .mv rfl 8 ?_
   refine .d1 (fun u=>rgV r::u1 0::u1 1::u 10::u2 6::u2 7::sq u2 0 6 (sq u 0 9 [])) K22 bel A19 fun u3 w3 D bel=>?_
   have E3_10:=D.q 10
   replace B19:=D.ol 9
   replace F21:=D.o L21 F21
   clear D
   refine wp_ret ?_
   refine ret_ok rfl (by exact results_mix rfl (by exact E1_1) B19 Tryz.underlying178 rfl (by kernel_rfl) (by exact E3_10)) ⟨_,rfl,?_,bel⟩
   exact ⟨_,_,rfl,(NumP.mk (.inl ⟨rfl,by first | exact valM_no c1 | exact valM_no c16⟩) (RatP.n (VP.at F21 L21))),(by unfold gmay; rw [c1,c16]; rfl)⟩
  ·
   refine gs 3 (Amb S W) fun _ K23=>?_
   refine .bx rfl (fun H=>H.v 0 (rgV r)) ?_
   refine .al rfl (#[.pointer none,.pointer none]) ?_
   refine .mc rfl ?_
   refine .dk (fun u=>rgV r::sq u 0 3 (us 17)) K23 bel fun u1 w1 D bel=>?_
   obtain ⟨b24,E1_0,A24,B24⟩:=D.nw 0
   obtain ⟨b25,E1_1,A25,B25⟩:=D.nw 1
   have E1_2:=D.q 2
   have N24_25:=D.n2 0 1 E1_0 E1_1
   clear D
   refine gd 8 (Amb S W) fun _ K26=>?_
   refine .fz rfl 1 0 E1_0 ?_
   refine .lp rfl 0 (rfC r.re) B24 ?_
   refine .cK rfl Tryz.func198 (fun H=>⟨_,ar1 (H.g 7 1),eRatF _ (by first | assumption | omega)⟩) ?_
   refine .fz rfl 1 4 E1_0 ?_
   refine .lp rfl 3 (rfC r.im) B24 ?_
   refine .cK rfl Tryz.func198 (fun H=>⟨_,ar1 (H.g 10 4),eRatF _ (by first | assumption | omega)⟩) ?_
   refine .mv rfl 2 ?_
   refine .mv rfl 5 ?_
   refine .dk (fun u=>rgV r::sq u1 0 3 (u 6::u 7::sq u 0 6 (us 9))) K26 bel fun u2 w2 D bel=>?_
   have E2_6:=D.q 6
   have E2_7:=D.q 7
   replace B25:=D.k B25
   clear D
   refine gs1 11 (Amb S W) 9 B25 fun _ K27=>?_
   refine .mz rfl 4 E2_6 ?_
   refine .mz rfl 5 E2_7 ?_
   refine .e rfl (V:=.agg #[.pointer none,.pointer none]) (fun H=>by have e12:=H.g 12 0; have e13:=H.g 13 1; clear H; go_simp) ?_
   refine .mz rfl 4 E2_6 ?_
   refine .e rfl (V:=.bool false) (fun H=>x_nnN (H.g 15 3) (H.c _)) ?_
   refine .mv rfl 4 ?_
   refine .sk rfl 5 ?_
   refine .sk rfl 5 ?_
   refine .e rfl (fun H=>x_pkF (H.g 17 5) (H.c _)) ?_
   refine .s1 rfl B25 (fun H=>⟨H.z 2 E1_1,H.g 14 2⟩) ?_
   refine .mv rfl 8 ?_
   refine .d1 (fun u=>rgV r::u1 0::u1 1::u 10::u2 6::u2 7::sq u2 0 6 (sq u 0 9 [])) K27 bel A25 fun u3 w3 D bel=>?_
   have E3_10:=D.q 10
   replace B25:=D.ol 9
   clear D
   refine wp_ret ?_
   refine ret_ok rfl (by exact results_mix rfl (by exact E1_1) B25 Tryz.underlying178 rfl (by kernel_rfl) (by exact E3_10)) ⟨_,rfl,?_,bel⟩
   exact ⟨_,_,rfl,(NumP.mk (.inl ⟨rfl,by first | exact valM_no c1 | exact valM_no c16⟩) (.inl ⟨rfl,by first | exact valM_no c1 | exact valM_no c16⟩)),(by unfold gmay; rw [c1,c16]; rfl)⟩
theorem eWheelA (r:RCi) (p0:gmay r.b = false) :
  Calls Tryz.prog 155 #[rciV r] W (RetV (.tuple #[.agg #[.pointer none,.pointer none,.pointer none,.pointer none],.bool false]) W):=by
 have bel:=b0 W
 go_enter Tryz.func155,Tryz.ntmps155
 refine gs 3 (Amb Z0 W) fun _ K1=>?_
 refine .bx rfl (fun H=>H.v 0 (rciV r)) ?_
 refine .al rfl (#[.pointer none,.pointer none,.pointer none,.pointer none]) ?_
 refine .mc rfl ?_
 refine .dk (fun u=>rciV r::sq u 0 3 (us 41)) K1 bel fun u1 w1 D bel=>?_
 obtain ⟨b2,E1_0,A2,B2⟩:=D.nw 0
 obtain ⟨b3,E1_1,A3,B3⟩:=D.nw 1
 have E1_2:=D.q 2
 have N2_3:=D.n2 0 1 E1_0 E1_1
 clear D
 refine gs 9 (Amb Z0 W) fun _ K4=>?_
 refine .fz rfl 1 4 E1_0 ?_
 refine .lp rfl 0 (rgC r.b) B2 ?_
 refine .cR rfl [] Tryz.func197 (fun H=>⟨_,ar1 (H.g 9 1),eOfR _⟩) ?_
 refine .mn rfl 2 [2] ?_
 refine Go2.fn (i:=4) rfl (G0 rfl) (.val 4 [2,3] (NumP (gvm r.b))) (fun u μ ρ H=>by have e7:=H.r 7 3; have h0:=(H.a 3 rfl); obtain ⟨x0,x1,h1,h2⟩:=h0; rw [h1] at e7; exact ⟨x0,by clear H; go_simp,SP.tupKeep (by decide) (by decide) h2.1⟩) ?_
 refine .e rfl (V:=.bool (gmay r.b)) (fun H=>by have e7:=H.r 7 3; have h0:=(H.a 3 rfl); obtain ⟨x0,x1,h1,h2,h3⟩:=h0; rw [h1] at e7; have h3:x1 = .bool (gmay r.b):=h3; subst h3; clear H; go_simp) ?_
 refine .al rfl (#[.pointer none,.pointer none]) ?_
 refine Go2.storeOwn (i:=7) (m:=6) rfl rfl (.head _) (SP.cells 6 [4] (fun u=>#[((u 4).v.cells.getD 0 undef),((u 4).v.cells.getD 1 undef)]) 178 (by intro u u' h; simp [h 4 (by simp)])) (fun u μ ρ b H h0 hB hb=>?_) ?_
 · have e4:=H.r 4 6; have e11:=H.r 11 4
   rw [h0] at e4
   obtain ⟨x1,x2,h1,h2,h3⟩:=(H.a 4 rfl)
   have o1:=VP1.ratn h2
   have o2:=VP1.ratn h3
   rw [h1] at e11
   refine ⟨μ.setRow b #[x1,x2],ex_store_row 178 _ _ rfl e4 e11 hb (by kernel_rfl) rfl (by simp [o1,o2]),fun g=>⟨b,?_,hB,?_⟩,setRow_only _ _ _⟩
   · rw [upd_other _ _ (by decide)]; exact h0
   · rw [setRow_at hb]; try simp [upd,h1,Value.cells]
 refine .e rfl (V:=.bool false) (fun H=>by have e12:=H.g 12 5; have k_:=p0; clear H; go_simp <;> first | (simp_all; done) | omega | exact len_gt z0_) ?_
 refine .dk (fun u=>rciV r::sq u1 0 3 (u 6::u 8::U::u 3::sq u 0 3 (u 4::u 5::us 32))) K4 bel fun u2 w2 D bel=>?_
 obtain ⟨x5,x6,E2_4,F_x5,F_x6⟩:=(D.rr 4)
 obtain ⟨b7,E2_6,A7,B7⟩:=(D.a 7 rfl)
 replace A7:=le2 D.le A7
 have E2_8:=D.q 8
 have N3_7:=D.n1 6 (lt_of B3) E2_6
 replace B2:=D.k B2
 replace B3:=D.k B3
 simp only [Value.cells,E2_4,E2_6] at B7
 replace B7:w2.heap[b7]? = some (.cells #[x5,x6] 178 (0,0)):=B7
 clear D
 refine gd 10 (Amb Z0 W) fun _ K8=>?_
 refine .fz rfl 1 0 E1_0 ?_
 refine .lp rfl 0 (rfC r.a) B2 ?_
 refine .cR rfl [] Tryz.func198 (fun H=>⟨_,ar1 (H.g 14 1),eRatA _⟩) ?_
 refine .lr rfl 4 E2_6 B7 ?_
 refine .fz rfl 1 12 E1_0 ?_
 refine .lp rfl 4 (rfC r.c) B2 ?_
 refine .cR rfl [] Tryz.func198 (fun H=>⟨_,ar1 (H.g 18 5),eRatA _⟩) ?_
 refine Go2.fn (i:=7) rfl (G0 rfl) (SP.fnL 7 [2,6] (fun u=>.agg #[(u 2).v,x5,x6,(u 6).v]) (by intro u u' h; simp [h 2 (by simp),h 6 (by simp)])) (fun u μ ρ H=>⟨_,by have e15:=H.r 15 2; have e16:=H.g 16 3; have e19:=H.r 19 6; obtain ⟨x2,h2⟩:=PtrP.isPtr (H.a 2 rfl); obtain ⟨x6,h6⟩:=PtrP.isPtr (H.a 6 rfl); clear H; go_simp,SP.fnL_upd (by decide)⟩) ?_
 refine .al rfl (#[.pointer none,.pointer none,.pointer none,.pointer none]) ?_
 refine Go2.storeOwn (i:=9) (m:=8) rfl rfl (.head _) (SP.cells 8 [2,6] (fun u=>#[(u 2).v,x5,x6,(u 6).v]) 203 (by intro u u' h; simp [h 2 (by simp),h 6 (by simp)])) (fun u μ ρ b H h0 hB hb=>?_) ?_
 · have e6:=H.r 6 8; have e20:=H.e 20 7 (by kernel_rfl) (H.a 7 rfl); have o2:=VP1.ptr (H.a 2 rfl); have o_x5:=VP1.ratn F_x5; have o_x6:=VP1.ratn F_x6; have o6:=VP1.ptr (H.a 6 rfl)
   rw [h0] at e6
   refine ⟨μ.setRow b #[(u 2).v,x5,x6,(u 6).v],ex_store_row 203 _ _ rfl e6 e20 hb (by kernel_rfl) rfl (by simp [o2,o_x5,o_x6,o6] <;> rfl),fun g=>⟨b,?_,hB,?_⟩,setRow_only _ _ _⟩
   · rw [upd_other _ _ (by decide)]; exact h0
   · rw [setRow_at hb]; try simp [upd]
 refine .dk (fun u=>rciV r::sq u1 0 3 (u2 6::u2 8::u 8::u2 3::sq u2 0 3 (u2 4::u2 5::sq u 0 8 (us 24)))) K8 bel fun u3 w3 D bel=>?_
 obtain ⟨x9,E3_2,F_x9⟩:∃ x_,(u3 2).v = x_ ∧ (PtrP 0).p (Amb Z0 W) x_ w3:=⟨_,rfl,D.rr 2⟩
 obtain ⟨x10,E3_6,F_x10⟩:∃ x_,(u3 6).v = x_ ∧ (PtrP 0).p (Amb Z0 W) x_ w3:=⟨_,rfl,D.rr 6⟩
 obtain ⟨b11,E3_8,A11,B11⟩:=(D.a 9 rfl)
 replace A11:=le2 D.le A11
 have N3_11:=D.n1 8 (lt_of B3) E3_8
 replace B3:=D.k B3
 simp only [Value.cells,E3_2,E3_6,E3_8] at B11
 replace F_x5:=D.gr (RatN ((gvm r.b).re)) F_x5
 replace F_x6:=D.gr (RatN ((gvm r.b).im)) F_x6
 clear D
 refine wp_seq_k fun _ K12=>?_
 refine gs 18 (Amb Z0 W) fun _ K13=>?_
 refine .mz rfl 5 E2_8 ?_
 refine .e rfl (V:=.bool true) (fun H=>x_not (H.g 21 0)) ?_
 refine .mv rfl 1 ?_
 refine .sk rfl 2 ?_
 refine .sk rfl 2 ?_
 refine .sk rfl 2 ?_
 refine .e rfl (fun H=>x_pkT (H.g 23 2) (H.c _)) ?_
 refine .mv rfl 6 ?_
 refine .sk rfl 7 ?_
 refine .sk rfl 7 ?_
 refine .sk rfl 7 ?_
 refine .e rfl (fun H=>x_pkT (H.g 28 7) (H.c _)) ?_
 refine .mv rfl 11 ?_
 refine .sk rfl 12 ?_
 refine .sk rfl 12 ?_
 refine .sk rfl 12 ?_
 refine .sk rfl 12 ?_
 refine .e rfl (fun H=>x_pkT (H.g 33 12) (H.c _)) ?_
 refine .dk (fun u=>rciV r::sq u1 0 3 (u2 6::u2 8::u3 8::u2 3::sq u2 0 3 (u2 4::u2 5::sq u3 0 8 (sq u 0 18 (us 6))))) K13 bel fun u4 w4 D bel=>?_
 have E4_17:=D.q 17
 replace B3:=D.k B3
 replace B11:=D.k B11
 replace F_x5:=D.gr (RatN ((gvm r.b).re)) F_x5
 replace F_x6:=D.gr (RatN ((gvm r.b).im)) F_x6
 replace F_x9:=D.gr (PtrP 0) F_x9
 replace F_x10:=D.gr (PtrP 0) F_x10
 clear D
 refine wp_cond_true (by exact E4_17) ?_
 refine gs1 3 (Amb Z0 W) 1 B3 fun _ K14=>?_
 refine .e rfl (V:=.agg #[.pointer none,.pointer none,.pointer none,.pointer none]) (fun H=>by clear H; go_simp) ?_
 refine .s1 rfl B3 (fun H=>⟨H.z 2 E1_1,H.g 39 0⟩) ?_
 refine .mc rfl ?_
 refine .d1 (fun u=>rciV r::u1 0::u1 1::u 2::u2 6::u2 8::u3 8::u2 3::sq u2 0 3 (u2 4::u2 5::sq u3 0 8 (sq u4 0 18 (u 0::us 5)))) K14 bel A3 fun u5 w5 D bel=>?_
 have E5_2:=D.q 2
 replace B3:=D.ol 1
 clear D
 refine wp_ret ?_
 refine ret_ok rfl (by exact results_mix rfl (by exact E1_1) B3 Tryz.underlying203 rfl (by kernel_rfl) (by exact E5_2)) (RetV.mk ?_ bel)
 exact congrArg Ending.returned (rfl)
theorem eWheelB (r:RCi) (p0:gmay r.b = true) (p1:fmay r.a = false) :
  Calls Tryz.prog 155 #[rciV r] W (RetV (.tuple #[.agg #[.pointer none,.pointer none,.pointer none,.pointer none],.bool false]) W):=by
 have bel:=b0 W
 go_enter Tryz.func155,Tryz.ntmps155
 refine gs 3 (Amb Z0 W) fun _ K1=>?_
 refine .bx rfl (fun H=>H.v 0 (rciV r)) ?_
 refine .al rfl (#[.pointer none,.pointer none,.pointer none,.pointer none]) ?_
 refine .mc rfl ?_
 refine .dk (fun u=>rciV r::sq u 0 3 (us 41)) K1 bel fun u1 w1 D bel=>?_
 obtain ⟨b2,E1_0,A2,B2⟩:=D.nw 0
 obtain ⟨b3,E1_1,A3,B3⟩:=D.nw 1
 have E1_2:=D.q 2
 have N2_3:=D.n2 0 1 E1_0 E1_1
 clear D
 refine gs 9 (Amb Z0 W) fun _ K4=>?_
 refine .fz rfl 1 4 E1_0 ?_
 refine .lp rfl 0 (rgC r.b) B2 ?_
 refine .cR rfl [] Tryz.func197 (fun H=>⟨_,ar1 (H.g 9 1),eOfR _⟩) ?_
 refine .mn rfl 2 [2] ?_
 refine Go2.fn (i:=4) rfl (G0 rfl) (.val 4 [2,3] (NumP (gvm r.b))) (fun u μ ρ H=>by have e7:=H.r 7 3; have h0:=(H.a 3 rfl); obtain ⟨x0,x1,h1,h2⟩:=h0; rw [h1] at e7; exact ⟨x0,by clear H; go_simp,SP.tupKeep (by decide) (by decide) h2.1⟩) ?_
 refine .e rfl (V:=.bool (gmay r.b)) (fun H=>by have e7:=H.r 7 3; have h0:=(H.a 3 rfl); obtain ⟨x0,x1,h1,h2,h3⟩:=h0; rw [h1] at e7; have h3:x1 = .bool (gmay r.b):=h3; subst h3; clear H; go_simp) ?_
 refine .al rfl (#[.pointer none,.pointer none]) ?_
 refine Go2.storeOwn (i:=7) (m:=6) rfl rfl (.head _) (SP.cells 6 [4] (fun u=>#[((u 4).v.cells.getD 0 undef),((u 4).v.cells.getD 1 undef)]) 178 (by intro u u' h; simp [h 4 (by simp)])) (fun u μ ρ b H h0 hB hb=>?_) ?_
 · have e4:=H.r 4 6; have e11:=H.r 11 4
   rw [h0] at e4
   obtain ⟨x1,x2,h1,h2,h3⟩:=(H.a 4 rfl)
   have o1:=VP1.ratn h2
   have o2:=VP1.ratn h3
   rw [h1] at e11
   refine ⟨μ.setRow b #[x1,x2],ex_store_row 178 _ _ rfl e4 e11 hb (by kernel_rfl) rfl (by simp [o1,o2]),fun g=>⟨b,?_,hB,?_⟩,setRow_only _ _ _⟩
   · rw [upd_other _ _ (by decide)]; exact h0
   · rw [setRow_at hb]; try simp [upd,h1,Value.cells]
 refine .e rfl (V:=.bool true) (fun H=>by have e12:=H.g 12 5; have k_:=p0; clear H; go_simp <;> first | (simp_all; done) | omega | exact len_gt z0_) ?_
 refine .dk (fun u=>rciV r::sq u1 0 3 (u 6::u 8::U::u 3::sq u 0 3 (u 4::u 5::us 32))) K4 bel fun u2 w2 D bel=>?_
 obtain ⟨x5,x6,E2_4,F_x5,F_x6⟩:=(D.rr 4)
 obtain ⟨b7,E2_6,A7,B7⟩:=(D.a 7 rfl)
 replace A7:=le2 D.le A7
 have E2_8:=D.q 8
 have N3_7:=D.n1 6 (lt_of B3) E2_6
 replace B2:=D.k B2
 replace B3:=D.k B3
 simp only [Value.cells,E2_4,E2_6] at B7
 replace B7:w2.heap[b7]? = some (.cells #[x5,x6] 178 (0,0)):=B7
 clear D
 refine gd 10 (Amb Z0 W) fun _ K8=>?_
 refine .fz rfl 1 0 E1_0 ?_
 refine .lp rfl 0 (rfC r.a) B2 ?_
 refine .cK rfl Tryz.func198 (fun H=>⟨_,ar1 (H.g 14 1),eRatF _ (by first | assumption | omega)⟩) ?_
 refine .lr rfl 4 E2_6 B7 ?_
 refine .fz rfl 1 12 E1_0 ?_
 refine .lp rfl 4 (rfC r.c) B2 ?_
 refine .cR rfl [] Tryz.func198 (fun H=>⟨_,ar1 (H.g 18 5),eRatA _⟩) ?_
 refine Go2.fn (i:=7) rfl (G0 rfl) (SP.fnL 7 [6] (fun u=>.agg #[.pointer none,x5,x6,(u 6).v]) (by intro u u' h; simp [h 6 (by simp)])) (fun u μ ρ H=>⟨_,by have e15:=H.g 15 2; have e16:=H.g 16 3; have e19:=H.r 19 6; obtain ⟨x6,h6⟩:=PtrP.isPtr (H.a 6 rfl); clear H; go_simp,SP.fnL_upd (by decide)⟩) ?_
 refine .al rfl (#[.pointer none,.pointer none,.pointer none,.pointer none]) ?_
 refine Go2.storeOwn (i:=9) (m:=8) rfl rfl (.head _) (SP.cells 8 [6] (fun u=>#[.pointer none,x5,x6,(u 6).v]) 203 (by intro u u' h; simp [h 6 (by simp)])) (fun u μ ρ b H h0 hB hb=>?_) ?_
 · have e6:=H.r 6 8; have e20:=H.e 20 7 (by kernel_rfl) (H.a 7 rfl); have o_x5:=VP1.ratn F_x5; have o_x6:=VP1.ratn F_x6; have o6:=VP1.ptr (H.a 6 rfl)
   rw [h0] at e6
   refine ⟨μ.setRow b #[.pointer none,x5,x6,(u 6).v],ex_store_row 203 _ _ rfl e6 e20 hb (by kernel_rfl) rfl (by simp [o_x5,o_x6,o6] <;> rfl),fun g=>⟨b,?_,hB,?_⟩,setRow_only _ _ _⟩
   · rw [upd_other _ _ (by decide)]; exact h0
   · rw [setRow_at hb]; try simp [upd]
 refine .dk (fun u=>rciV r::sq u1 0 3 (u2 6::u2 8::u 8::u2 3::sq u2 0 3 (u2 4::u2 5::sq u 0 8 (us 24)))) K8 bel fun u3 w3 D bel=>?_
 obtain ⟨x9,E3_6,F_x9⟩:∃ x_,(u3 6).v = x_ ∧ (PtrP 0).p (Amb Z0 W) x_ w3:=⟨_,rfl,D.rr 6⟩
 obtain ⟨b10,E3_8,A10,B10⟩:=(D.a 9 rfl)
 replace A10:=le2 D.le A10
 have N3_10:=D.n1 8 (lt_of B3) E3_8
 replace B3:=D.k B3
 simp only [Value.cells,E3_6,E3_8] at B10
 replace F_x5:=D.gr (RatN ((gvm r.b).re)) F_x5
 replace F_x6:=D.gr (RatN ((gvm r.b).im)) F_x6
 clear D
 refine wp_seq_k fun _ K11=>?_
 refine gs 18 (Amb Z0 W) fun _ K12=>?_
 refine .mz rfl 5 E2_8 ?_
 refine .e rfl (V:=.bool false) (fun H=>x_not (H.g 21 0)) ?_
 refine .mv rfl 1 ?_
 refine .fz rfl 6 0 E3_8 ?_ (hg:=gq 2 rfl)
 refine .lc rfl 3 B10 ?_ (V:=.pointer none) (hg:=gq 2 rfl)
 refine .e rfl (V:=.bool true) (fun H=>x_nnE (H.g 25 4) (H.c _)) ?_ (hg:=gq 2 rfl)
 refine .e rfl (fun H=>x_pkF (H.g 23 2) (H.g 26 5)) ?_
 refine .mv rfl 6 ?_
 refine .sk rfl 7 ?_
 refine .sk rfl 7 ?_
 refine .sk rfl 7 ?_
 refine .e rfl (fun H=>x_pkT (H.g 28 7) (H.c _)) ?_
 refine .mv rfl 11 ?_
 refine .sk rfl 12 ?_
 refine .sk rfl 12 ?_
 refine .sk rfl 12 ?_
 refine .sk rfl 12 ?_
 refine .e rfl (fun H=>x_pkT (H.g 33 12) (H.c _)) ?_
 refine .dk (fun u=>rciV r::sq u1 0 3 (u2 6::u2 8::u3 8::u2 3::sq u2 0 3 (u2 4::u2 5::sq u3 0 8 (sq u 0 18 (us 6))))) K12 bel fun u4 w4 D bel=>?_
 have E4_17:=D.q 17
 replace B3:=D.k B3
 replace B10:=D.k B10
 replace F_x5:=D.gr (RatN ((gvm r.b).re)) F_x5
 replace F_x6:=D.gr (RatN ((gvm r.b).im)) F_x6
 replace F_x9:=D.gr (PtrP 0) F_x9
 clear D
 refine wp_cond_true (by exact E4_17) ?_
 refine gs1 3 (Amb Z0 W) 1 B3 fun _ K13=>?_
 refine .e rfl (V:=.agg #[.pointer none,.pointer none,.pointer none,.pointer none]) (fun H=>by clear H; go_simp) ?_
 refine .s1 rfl B3 (fun H=>⟨H.z 2 E1_1,H.g 39 0⟩) ?_
 refine .mc rfl ?_
 refine .d1 (fun u=>rciV r::u1 0::u1 1::u 2::u2 6::u2 8::u3 8::u2 3::sq u2 0 3 (u2 4::u2 5::sq u3 0 8 (sq u4 0 18 (u 0::us 5)))) K13 bel A3 fun u5 w5 D bel=>?_
 have E5_2:=D.q 2
 replace B3:=D.ol 1
 clear D
 refine wp_ret ?_
 refine ret_ok rfl (by exact results_mix rfl (by exact E1_1) B3 Tryz.underlying203 rfl (by kernel_rfl) (by exact E5_2)) (RetV.mk ?_ bel)
 exact congrArg Ending.returned (rfl)
theorem eWheelC (r:RCi) (p0:gmay r.b = true) (p1:fmay r.a = true) (p2:fmay r.c = false) :
  Calls Tryz.prog 155 #[rciV r] W (RetV (.tuple #[.agg #[.pointer none,.pointer none,.pointer none,.pointer none],.bool false]) W):=by
 have bel:=b0 W
 go_enter Tryz.func155,Tryz.ntmps155
 refine gs 3 (Amb Z0 W) fun _ K1=>?_
 refine .bx rfl (fun H=>H.v 0 (rciV r)) ?_
 refine .al rfl (#[.pointer none,.pointer none,.pointer none,.pointer none]) ?_
 refine .mc rfl ?_
 refine .dk (fun u=>rciV r::sq u 0 3 (us 41)) K1 bel fun u1 w1 D bel=>?_
 obtain ⟨b2,E1_0,A2,B2⟩:=D.nw 0
 obtain ⟨b3,E1_1,A3,B3⟩:=D.nw 1
 have E1_2:=D.q 2
 have N2_3:=D.n2 0 1 E1_0 E1_1
 clear D
 refine gs 9 (Amb Z0 W) fun _ K4=>?_
 refine .fz rfl 1 4 E1_0 ?_
 refine .lp rfl 0 (rgC r.b) B2 ?_
 refine .cR rfl [] Tryz.func197 (fun H=>⟨_,ar1 (H.g 9 1),eOfR _⟩) ?_
 refine .mn rfl 2 [2] ?_
 refine Go2.fn (i:=4) rfl (G0 rfl) (.val 4 [2,3] (NumP (gvm r.b))) (fun u μ ρ H=>by have e7:=H.r 7 3; have h0:=(H.a 3 rfl); obtain ⟨x0,x1,h1,h2⟩:=h0; rw [h1] at e7; exact ⟨x0,by clear H; go_simp,SP.tupKeep (by decide) (by decide) h2.1⟩) ?_
 refine .e rfl (V:=.bool (gmay r.b)) (fun H=>by have e7:=H.r 7 3; have h0:=(H.a 3 rfl); obtain ⟨x0,x1,h1,h2,h3⟩:=h0; rw [h1] at e7; have h3:x1 = .bool (gmay r.b):=h3; subst h3; clear H; go_simp) ?_
 refine .al rfl (#[.pointer none,.pointer none]) ?_
 refine Go2.storeOwn (i:=7) (m:=6) rfl rfl (.head _) (SP.cells 6 [4] (fun u=>#[((u 4).v.cells.getD 0 undef),((u 4).v.cells.getD 1 undef)]) 178 (by intro u u' h; simp [h 4 (by simp)])) (fun u μ ρ b H h0 hB hb=>?_) ?_
 · have e4:=H.r 4 6; have e11:=H.r 11 4
   rw [h0] at e4
   obtain ⟨x1,x2,h1,h2,h3⟩:=(H.a 4 rfl)
   have o1:=VP1.ratn h2
   have o2:=VP1.ratn h3
   rw [h1] at e11
   refine ⟨μ.setRow b #[x1,x2],ex_store_row 178 _ _ rfl e4 e11 hb (by kernel_rfl) rfl (by simp [o1,o2]),fun g=>⟨b,?_,hB,?_⟩,setRow_only _ _ _⟩
   · rw [upd_other _ _ (by decide)]; exact h0
   · rw [setRow_at hb]; try simp [upd,h1,Value.cells]
 refine .e rfl (V:=.bool true) (fun H=>by have e12:=H.g 12 5; have k_:=p0; clear H; go_simp <;> first | (simp_all; done) | omega | exact len_gt z0_) ?_
 refine .dk (fun u=>rciV r::sq u1 0 3 (u 6::u 8::U::u 3::sq u 0 3 (u 4::u 5::us 32))) K4 bel fun u2 w2 D bel=>?_
 obtain ⟨x5,x6,E2_4,F_x5,F_x6⟩:=(D.rr 4)
 obtain ⟨b7,E2_6,A7,B7⟩:=(D.a 7 rfl)
 replace A7:=le2 D.le A7
 have E2_8:=D.q 8
 have N3_7:=D.n1 6 (lt_of B3) E2_6
 replace B2:=D.k B2
 replace B3:=D.k B3
 simp only [Value.cells,E2_4,E2_6] at B7
 replace B7:w2.heap[b7]? = some (.cells #[x5,x6] 178 (0,0)):=B7
 clear D
 refine gd 10 (Amb Z0 W) fun _ K8=>?_
 refine .fz rfl 1 0 E1_0 ?_
 refine .lp rfl 0 (rfC r.a) B2 ?_
 refine .cR rfl [] Tryz.func198 (fun H=>⟨_,ar1 (H.g 14 1),eRatT _ (by first | assumption | omega)⟩) ?_
 refine .lr rfl 4 E2_6 B7 ?_
 refine .fz rfl 1 12 E1_0 ?_
 refine .lp rfl 4 (rfC r.c) B2 ?_
 refine .cK rfl Tryz.func198 (fun H=>⟨_,ar1 (H.g 18 5),eRatF _ (by first | assumption | omega)⟩) ?_
 refine Go2.fn (i:=7) rfl (G0 rfl) (SP.fnL 7 [2] (fun u=>.agg #[(u 2).v,x5,x6,.pointer none]) (by intro u u' h; simp [h 2 (by simp)])) (fun u μ ρ H=>⟨_,by have e15:=H.r 15 2; have e16:=H.g 16 3; have e19:=H.g 19 6; obtain ⟨x2,h2⟩:=RatP.isPtr (H.a 2 rfl); clear H; go_simp,SP.fnL_upd (by decide)⟩) ?_
 refine .al rfl (#[.pointer none,.pointer none,.pointer none,.pointer none]) ?_
 refine Go2.storeOwn (i:=9) (m:=8) rfl rfl (.head _) (SP.cells 8 [2] (fun u=>#[(u 2).v,x5,x6,.pointer none]) 203 (by intro u u' h; simp [h 2 (by simp)])) (fun u μ ρ b H h0 hB hb=>?_) ?_
 · have e6:=H.r 6 8; have e20:=H.e 20 7 (by kernel_rfl) (H.a 7 rfl); have o2:=VP1.rat (H.a 2 rfl); have o_x5:=VP1.ratn F_x5; have o_x6:=VP1.ratn F_x6
   rw [h0] at e6
   refine ⟨μ.setRow b #[(u 2).v,x5,x6,.pointer none],ex_store_row 203 _ _ rfl e6 e20 hb (by kernel_rfl) rfl (by simp [o2,o_x5,o_x6] <;> rfl),fun g=>⟨b,?_,hB,?_⟩,setRow_only _ _ _⟩
   · rw [upd_other _ _ (by decide)]; exact h0
   · rw [setRow_at hb]; try simp [upd]
 refine .dk (fun u=>rciV r::sq u1 0 3 (u2 6::u2 8::u 8::u2 3::sq u2 0 3 (u2 4::u2 5::sq u 0 8 (us 24)))) K8 bel fun u3 w3 D bel=>?_
 obtain ⟨b9,E3_2,L9,F9⟩:=RatP.elim (D.rr 2)
 obtain ⟨b10,E3_8,A10,B10⟩:=(D.a 9 rfl)
 replace A10:=le2 D.le A10
 have N3_10:=D.n1 8 (lt_of B3) E3_8
 replace B3:=D.k B3
 simp only [Value.cells,E3_2,E3_8] at B10
 replace F_x5:=D.gr (RatN ((gvm r.b).re)) F_x5
 replace F_x6:=D.gr (RatN ((gvm r.b).im)) F_x6
 clear D
 refine wp_seq_k fun _ K11=>?_
 refine gs 18 (Amb Z0 W) fun _ K12=>?_
 refine .mz rfl 5 E2_8 ?_
 refine .e rfl (V:=.bool false) (fun H=>x_not (H.g 21 0)) ?_
 refine .mv rfl 1 ?_
 refine .fz rfl 6 0 E3_8 ?_ (hg:=gq 2 rfl)
 refine .lc rfl 3 B10 ?_ (V:=pt b9) (hg:=gq 2 rfl)
 refine .e rfl (V:=.bool false) (fun H=>x_pnE (H.g 25 4) (H.c _)) ?_ (hg:=gq 2 rfl)
 refine .e rfl (fun H=>x_pkF (H.g 23 2) (H.g 26 5)) ?_
 refine .mv rfl 6 ?_
 refine .fz rfl 6 3 E3_8 ?_ (hg:=gq 7 rfl)
 refine .lc rfl 8 B10 ?_ (V:=.pointer none) (hg:=gq 7 rfl)
 refine .e rfl (V:=.bool true) (fun H=>x_nnE (H.g 30 9) (H.c _)) ?_ (hg:=gq 7 rfl)
 refine .e rfl (fun H=>x_pkF (H.g 28 7) (H.g 31 10)) ?_
 refine .mv rfl 11 ?_
 refine .sk rfl 12 ?_
 refine .sk rfl 12 ?_
 refine .sk rfl 12 ?_
 refine .sk rfl 12 ?_
 refine .e rfl (fun H=>x_pkT (H.g 33 12) (H.c _)) ?_
 refine .dk (fun u=>rciV r::sq u1 0 3 (u2 6::u2 8::u3 8::u2 3::sq u2 0 3 (u2 4::u2 5::sq u3 0 8 (sq u 0 18 (us 6))))) K12 bel fun u4 w4 D bel=>?_
 have E4_17:=D.q 17
 replace B3:=D.k B3
 replace B10:=D.k B10
 replace F9:=D.o L9 F9
 replace F_x5:=D.gr (RatN ((gvm r.b).re)) F_x5
 replace F_x6:=D.gr (RatN ((gvm r.b).im)) F_x6
 clear D
 refine wp_cond_true (by exact E4_17) ?_
 refine gs1 3 (Amb Z0 W) 1 B3 fun _ K13=>?_
 refine .e rfl (V:=.agg #[.pointer none,.pointer none,.pointer none,.pointer none]) (fun H=>by clear H; go_simp) ?_
 refine .s1 rfl B3 (fun H=>⟨H.z 2 E1_1,H.g 39 0⟩) ?_
 refine .mc rfl ?_
 refine .d1 (fun u=>rciV r::u1 0::u1 1::u 2::u2 6::u2 8::u3 8::u2 3::sq u2 0 3 (u2 4::u2 5::sq u3 0 8 (sq u4 0 18 (u 0::us 5)))) K13 bel A3 fun u5 w5 D bel=>?_
 have E5_2:=D.q 2
 replace B3:=D.ol 1
 clear D
 refine wp_ret ?_
 refine ret_ok rfl (by exact results_mix rfl (by exact E1_1) B3 Tryz.underlying203 rfl (by kernel_rfl) (by exact E5_2)) (RetV.mk ?_ bel)
 exact congrArg Ending.returned (rfl)
theorem eWheelP (c:Ci) (p0:cifits (rci c) = true) (p1:c.pos = false) :
  Calls Tryz.prog 155 #[ciV c] W (RetV (.tuple #[.agg #[.pointer none,.pointer none,.pointer none,.pointer none],.bool false]) W):=by
 have f:=cifits_ht p0
 have bel:=b0 W
 go_enter Tryz.func155,Tryz.ntmps155
 refine gs 3 (Amb Z0 W) fun _ K1=>?_
 refine .bx rfl (fun H=>H.v 0 (ciV c)) ?_
 refine .al rfl (#[.pointer none,.pointer none,.pointer none,.pointer none]) ?_
 refine .mc rfl ?_
 refine .dk (fun u=>ciV c::sq u 0 3 (us 41)) K1 bel fun u1 w1 D bel=>?_
 obtain ⟨b2,E1_0,A2,B2⟩:=D.nw 0
 obtain ⟨b3,E1_1,A3,B3⟩:=D.nw 1
 have E1_2:=D.q 2
 have N2_3:=D.n2 0 1 E1_0 E1_1
 clear D
 refine gs 9 (Amb Z0 W) fun _ K4=>?_
 refine .fz rfl 1 4 E1_0 ?_
 refine .lp rfl 0 (gC c.b) B2 ?_
 refine .cR rfl [] Tryz.func197 (fun H=>⟨_,ar1 (H.g 9 1),eOf _ (by first | omega | exact (and_3 p0).1 | exact (and_3 p0).2.1 | exact (and_3 p0).2.2 | exact pos_flat p1)⟩) ?_
 refine .mn rfl 2 [2] ?_
 refine Go2.fn (i:=4) rfl (G0 rfl) (.val 4 [2,3] (NumP c.b)) (fun u μ ρ H=>by have e7:=H.r 7 3; have h0:=(H.a 3 rfl); obtain ⟨x0,x1,h1,h2⟩:=h0; rw [h1] at e7; exact ⟨x0,by clear H; go_simp,SP.tupKeep (by decide) (by decide) h2.1⟩) ?_
 refine .e rfl (V:=.bool true) (fun H=>by have e7:=H.r 7 3; have h0:=(H.a 3 rfl); obtain ⟨x0,x1,h1,h2,h3⟩:=h0; rw [h1] at e7; have h3:x1 = .bool true:=h3; subst h3; clear H; go_simp) ?_
 refine .al rfl (#[.pointer none,.pointer none]) ?_
 refine Go2.storeOwn (i:=7) (m:=6) rfl rfl (.head _) (SP.cells 6 [4] (fun u=>#[((u 4).v.cells.getD 0 undef),((u 4).v.cells.getD 1 undef)]) 178 (by intro u u' h; simp [h 4 (by simp)])) (fun u μ ρ b H h0 hB hb=>?_) ?_
 · have e4:=H.r 4 6; have e11:=H.r 11 4
   rw [h0] at e4
   obtain ⟨x1,x2,h1,h2,h3⟩:=(H.a 4 rfl)
   have o1:=VP1.ratn h2
   have o2:=VP1.ratn h3
   rw [h1] at e11
   refine ⟨μ.setRow b #[x1,x2],ex_store_row 178 _ _ rfl e4 e11 hb (by kernel_rfl) rfl (by simp [o1,o2]),fun g=>⟨b,?_,hB,?_⟩,setRow_only _ _ _⟩
   · rw [upd_other _ _ (by decide)]; exact h0
   · rw [setRow_at hb]; try simp [upd,h1,Value.cells]
 refine .mv rfl 5 ?_
 refine .dk (fun u=>ciV c::sq u1 0 3 (u 6::u 8::U::u 3::sq u 0 3 (u 4::u 5::us 32))) K4 bel fun u2 w2 D bel=>?_
 obtain ⟨x5,x6,E2_4,F_x5,F_x6⟩:=(D.rr 4)
 obtain ⟨b7,E2_6,A7,B7⟩:=(D.a 7 rfl)
 replace A7:=le2 D.le A7
 have E2_8:=D.q 8
 have N3_7:=D.n1 6 (lt_of B3) E2_6
 replace B2:=D.k B2
 replace B3:=D.k B3
 simp only [Value.cells,E2_4,E2_6] at B7
 replace B7:w2.heap[b7]? = some (.cells #[x5,x6] 178 (0,0)):=B7
 clear D
 refine gd 10 (Amb Z0 W) fun _ K8=>?_
 refine .fz rfl 1 0 E1_0 ?_
 refine .lp rfl 0 (fC c.a) B2 ?_
 refine .cR rfl [] Tryz.func198 (fun H=>⟨_,ar1 (H.g 14 1),eRatOk _ (by first | omega | exact (and_3 p0).1 | exact (and_3 p0).2.1 | exact (and_3 p0).2.2 | exact pos_flat p1)⟩) ?_
 refine .lr rfl 4 E2_6 B7 ?_
 refine .fz rfl 1 12 E1_0 ?_
 refine .lp rfl 4 (fC c.c) B2 ?_
 refine .cR rfl [] Tryz.func198 (fun H=>⟨_,ar1 (H.g 18 5),eRatOk _ (by first | omega | exact (and_3 p0).1 | exact (and_3 p0).2.1 | exact (and_3 p0).2.2 | exact pos_flat p1)⟩) ?_
 refine Go2.fn (i:=7) rfl (G0 rfl) (SP.fnL 7 [2,6] (fun u=>.agg #[(u 2).v,x5,x6,(u 6).v]) (by intro u u' h; simp [h 2 (by simp),h 6 (by simp)])) (fun u μ ρ H=>⟨_,by have e15:=H.r 15 2; have e16:=H.g 16 3; have e19:=H.r 19 6; obtain ⟨x2,h2⟩:=RatP.isPtr (H.a 2 rfl); obtain ⟨x6,h6⟩:=RatP.isPtr (H.a 6 rfl); clear H; go_simp,SP.fnL_upd (by decide)⟩) ?_
 refine .al rfl (#[.pointer none,.pointer none,.pointer none,.pointer none]) ?_
 refine Go2.storeOwn (i:=9) (m:=8) rfl rfl (.head _) (SP.cells 8 [2,6] (fun u=>#[(u 2).v,x5,x6,(u 6).v]) 203 (by intro u u' h; simp [h 2 (by simp),h 6 (by simp)])) (fun u μ ρ b H h0 hB hb=>?_) ?_
 · have e6:=H.r 6 8; have e20:=H.e 20 7 (by kernel_rfl) (H.a 7 rfl); have o2:=VP1.rat (H.a 2 rfl); have o_x5:=VP1.ratn F_x5; have o_x6:=VP1.ratn F_x6; have o6:=VP1.rat (H.a 6 rfl)
   rw [h0] at e6
   refine ⟨μ.setRow b #[(u 2).v,x5,x6,(u 6).v],ex_store_row 203 _ _ rfl e6 e20 hb (by kernel_rfl) rfl (by simp [o2,o_x5,o_x6,o6] <;> rfl),fun g=>⟨b,?_,hB,?_⟩,setRow_only _ _ _⟩
   · rw [upd_other _ _ (by decide)]; exact h0
   · rw [setRow_at hb]; try simp [upd]
 refine .dk (fun u=>ciV c::sq u1 0 3 (u2 6::u2 8::u 8::u2 3::sq u2 0 3 (u2 4::u2 5::sq u 0 8 (us 24)))) K8 bel fun u3 w3 D bel=>?_
 obtain ⟨b9,E3_2,L9,F9⟩:=RatP.elim (D.rr 2)
 obtain ⟨b10,E3_6,L10,F10⟩:=RatP.elim (D.rr 6)
 obtain ⟨b11,E3_8,A11,B11⟩:=(D.a 9 rfl)
 replace A11:=le2 D.le A11
 have N3_11:=D.n1 8 (lt_of B3) E3_8
 replace B3:=D.k B3
 simp only [Value.cells,E3_2,E3_6,E3_8] at B11
 replace F_x5:=D.gr (RatN c.b.re) F_x5
 replace F_x6:=D.gr (RatN c.b.im) F_x6
 clear D
 refine wp_seq_k fun _ K12=>?_
 refine gs 18 (Amb Z0 W) fun _ K13=>?_
 refine .mz rfl 5 E2_8 ?_
 refine .e rfl (V:=.bool false) (fun H=>x_not (H.g 21 0)) ?_
 refine .mv rfl 1 ?_
 refine .fz rfl 6 0 E3_8 ?_ (hg:=gq 2 rfl)
 refine .lc rfl 3 B11 ?_ (V:=pt b9) (hg:=gq 2 rfl)
 refine .e rfl (V:=.bool false) (fun H=>x_pnE (H.g 25 4) (H.c _)) ?_ (hg:=gq 2 rfl)
 refine .e rfl (fun H=>x_pkF (H.g 23 2) (H.g 26 5)) ?_
 refine .mv rfl 6 ?_
 refine .fz rfl 6 3 E3_8 ?_ (hg:=gq 7 rfl)
 refine .lc rfl 8 B11 ?_ (V:=pt b10) (hg:=gq 7 rfl)
 refine .e rfl (V:=.bool false) (fun H=>x_pnE (H.g 30 9) (H.c _)) ?_ (hg:=gq 7 rfl)
 refine .e rfl (fun H=>x_pkF (H.g 28 7) (H.g 31 10)) ?_
 refine .mv rfl 11 ?_
 refine .lr rfl 6 E3_8 B11 ?_ (hg:=gq 12 rfl)
 refine .cR rfl [] Tryz.func141 (fun H=>⟨_,ar1 (H.g 34 13),rgPow c (RingP.mk (H.was _ [] (VP.at F9 L9)) (H.was _ [] F_x5) (H.was _ [] F_x6) (H.was _ [] (VP.at F10 L10))) (by first | omega | exact (and_3 p0).1 | exact (and_3 p0).2.1 | exact (and_3 p0).2.2 | exact pos_flat p1)⟩) ?_ (hg:=gq 12 rfl)
 refine .cK rfl Tryz.func140 (fun H=>⟨_,ar1 (H.r 35 14),qSign _ (SV.any (H.a 14 rfl))⟩) ?_ (hg:=gq 12 rfl)
 refine .e rfl (V:=.bool true) (fun H=>x_cm (H.g 36 15) (H.c _) (pos_no p1)) ?_ (hg:=gq 12 rfl)
 refine .e rfl (fun H=>x_pkF (H.g 33 12) (H.g 37 16)) ?_
 refine .dk (fun u=>ciV c::sq u1 0 3 (u2 6::u2 8::u3 8::u2 3::sq u2 0 3 (u2 4::u2 5::sq u3 0 8 (sq u 0 18 (us 6))))) K13 bel fun u4 w4 D bel=>?_
 have E4_17:=D.q 17
 replace B3:=D.k B3
 replace B11:=D.k B11
 replace F9:=D.o L9 F9
 replace F10:=D.o L10 F10
 replace F_x5:=D.gr (RatN c.b.re) F_x5
 replace F_x6:=D.gr (RatN c.b.im) F_x6
 clear D
 refine wp_cond_true (by exact E4_17) ?_
 refine gs1 3 (Amb Z0 W) 1 B3 fun _ K14=>?_
 refine .e rfl (V:=.agg #[.pointer none,.pointer none,.pointer none,.pointer none]) (fun H=>by clear H; go_simp) ?_
 refine .s1 rfl B3 (fun H=>⟨H.z 2 E1_1,H.g 39 0⟩) ?_
 refine .mc rfl ?_
 refine .d1 (fun u=>ciV c::u1 0::u1 1::u 2::u2 6::u2 8::u3 8::u2 3::sq u2 0 3 (u2 4::u2 5::sq u3 0 8 (sq u4 0 18 (u 0::us 5)))) K14 bel A3 fun u5 w5 D bel=>?_
 have E5_2:=D.q 2
 replace B3:=D.ol 1
 clear D
 refine wp_ret ?_
 refine ret_ok rfl (by exact results_mix rfl (by exact E1_1) B3 Tryz.underlying203 rfl (by kernel_rfl) (by exact E5_2)) (RetV.mk ?_ bel)
 exact congrArg Ending.returned (rfl)
theorem eWheelY (c:Ci) (p0:cifits (rci c) = true) (p1:c.pos = true) :
  Calls Tryz.prog 155 #[ciV c] W (Ret (VP.tup (RingP c) (VP.is (.bool (decide (c.nrm = c))))) S W):=by
 have f:=cifits_ht p0
 have h1:=nrm_ht c
 have h2:=piv_ht c
 unfold Ci.hh Cx.hh at h2
 have bel:=b0 W
 go_enter Tryz.func155,Tryz.ntmps155
 refine gs 3 (Amb S W) fun _ K1=>?_
 refine .bx rfl (fun H=>H.v 0 (ciV c)) ?_
 refine .al rfl (#[.pointer none,.pointer none,.pointer none,.pointer none]) ?_
 refine .mc rfl ?_
 refine .dk (fun u=>ciV c::sq u 0 3 (us 41)) K1 bel fun u1 w1 D bel=>?_
 obtain ⟨b2,E1_0,A2,B2⟩:=D.nw 0
 obtain ⟨b3,E1_1,A3,B3⟩:=D.nw 1
 have E1_2:=D.q 2
 have N2_3:=D.n2 0 1 E1_0 E1_1
 clear D
 refine gs 9 (Amb S W) fun _ K4=>?_
 refine .fz rfl 1 4 E1_0 ?_
 refine .lp rfl 0 (gC c.b) B2 ?_
 refine .cR rfl [] Tryz.func197 (fun H=>⟨_,ar1 (H.g 9 1),eOf _ (by first | omega | exact (and_3 p0).1 | exact (and_3 p0).2.1 | exact (and_3 p0).2.2 | exact pos_flat p1)⟩) ?_
 refine .mn rfl 2 [2] ?_
 refine Go2.fn (i:=4) rfl (G0 rfl) (.val 4 [2,3] (NumP c.b)) (fun u μ ρ H=>by have e7:=H.r 7 3; have h0:=(H.a 3 rfl); obtain ⟨x0,x1,h1,h2⟩:=h0; rw [h1] at e7; exact ⟨x0,by clear H; go_simp,SP.tupKeep (by decide) (by decide) h2.1⟩) ?_
 refine .e rfl (V:=.bool true) (fun H=>by have e7:=H.r 7 3; have h0:=(H.a 3 rfl); obtain ⟨x0,x1,h1,h2,h3⟩:=h0; rw [h1] at e7; have h3:x1 = .bool true:=h3; subst h3; clear H; go_simp) ?_
 refine .al rfl (#[.pointer none,.pointer none]) ?_
 refine Go2.storeOwn (i:=7) (m:=6) rfl rfl (.head _) (SP.cells 6 [4] (fun u=>#[((u 4).v.cells.getD 0 undef),((u 4).v.cells.getD 1 undef)]) 178 (by intro u u' h; simp [h 4 (by simp)])) (fun u μ ρ b H h0 hB hb=>?_) ?_
 · have e4:=H.r 4 6; have e11:=H.r 11 4
   rw [h0] at e4
   obtain ⟨x1,x2,h1,h2,h3⟩:=(H.a 4 rfl)
   have o1:=VP1.ratn h2
   have o2:=VP1.ratn h3
   rw [h1] at e11
   refine ⟨μ.setRow b #[x1,x2],ex_store_row 178 _ _ rfl e4 e11 hb (by kernel_rfl) rfl (by simp [o1,o2]),fun g=>⟨b,?_,hB,?_⟩,setRow_only _ _ _⟩
   · rw [upd_other _ _ (by decide)]; exact h0
   · rw [setRow_at hb]; try simp [upd,h1,Value.cells]
 refine .mv rfl 5 ?_
 refine .dk (fun u=>ciV c::sq u1 0 3 (u 6::u 8::U::u 3::sq u 0 3 (u 4::u 5::us 32))) K4 bel fun u2 w2 D bel=>?_
 obtain ⟨x5,x6,E2_4,F_x5,F_x6⟩:=(D.rr 4)
 obtain ⟨b7,E2_6,A7,B7⟩:=(D.a 7 rfl)
 replace A7:=le2 D.le A7
 have E2_8:=D.q 8
 have N3_7:=D.n1 6 (lt_of B3) E2_6
 replace B2:=D.k B2
 replace B3:=D.k B3
 simp only [Value.cells,E2_4,E2_6] at B7
 replace B7:w2.heap[b7]? = some (.cells #[x5,x6] 178 (0,0)):=B7
 clear D
 refine gd 10 (Amb S W) fun _ K8=>?_
 refine .fz rfl 1 0 E1_0 ?_
 refine .lp rfl 0 (fC c.a) B2 ?_
 refine .cR rfl [] Tryz.func198 (fun H=>⟨_,ar1 (H.g 14 1),eRatOk _ (by first | omega | exact (and_3 p0).1 | exact (and_3 p0).2.1 | exact (and_3 p0).2.2 | exact pos_flat p1)⟩) ?_
 refine .lr rfl 4 E2_6 B7 ?_
 refine .fz rfl 1 12 E1_0 ?_
 refine .lp rfl 4 (fC c.c) B2 ?_
 refine .cR rfl [] Tryz.func198 (fun H=>⟨_,ar1 (H.g 18 5),eRatOk _ (by first | omega | exact (and_3 p0).1 | exact (and_3 p0).2.1 | exact (and_3 p0).2.2 | exact pos_flat p1)⟩) ?_
 refine Go2.fn (i:=7) rfl (G0 rfl) (SP.fnL 7 [2,6] (fun u=>.agg #[(u 2).v,x5,x6,(u 6).v]) (by intro u u' h; simp [h 2 (by simp),h 6 (by simp)])) (fun u μ ρ H=>⟨_,by have e15:=H.r 15 2; have e16:=H.g 16 3; have e19:=H.r 19 6; obtain ⟨x2,h2⟩:=RatP.isPtr (H.a 2 rfl); obtain ⟨x6,h6⟩:=RatP.isPtr (H.a 6 rfl); clear H; go_simp,SP.fnL_upd (by decide)⟩) ?_
 refine .al rfl (#[.pointer none,.pointer none,.pointer none,.pointer none]) ?_
 refine Go2.storeOwn (i:=9) (m:=8) rfl rfl (.head _) (SP.cells 8 [2,6] (fun u=>#[(u 2).v,x5,x6,(u 6).v]) 203 (by intro u u' h; simp [h 2 (by simp),h 6 (by simp)])) (fun u μ ρ b H h0 hB hb=>?_) ?_
 · have e6:=H.r 6 8; have e20:=H.e 20 7 (by kernel_rfl) (H.a 7 rfl); have o2:=VP1.rat (H.a 2 rfl); have o_x5:=VP1.ratn F_x5; have o_x6:=VP1.ratn F_x6; have o6:=VP1.rat (H.a 6 rfl)
   rw [h0] at e6
   refine ⟨μ.setRow b #[(u 2).v,x5,x6,(u 6).v],ex_store_row 203 _ _ rfl e6 e20 hb (by kernel_rfl) rfl (by simp [o2,o_x5,o_x6,o6] <;> rfl),fun g=>⟨b,?_,hB,?_⟩,setRow_only _ _ _⟩
   · rw [upd_other _ _ (by decide)]; exact h0
   · rw [setRow_at hb]; try simp [upd]
 refine .dk (fun u=>ciV c::sq u1 0 3 (u2 6::u2 8::u 8::u2 3::sq u2 0 3 (u2 4::u2 5::sq u 0 8 (us 24)))) K8 bel fun u3 w3 D bel=>?_
 obtain ⟨b9,E3_2,L9,F9⟩:=RatP.elim (D.rr 2)
 obtain ⟨b10,E3_6,L10,F10⟩:=RatP.elim (D.rr 6)
 obtain ⟨b11,E3_8,A11,B11⟩:=(D.a 9 rfl)
 replace A11:=le2 D.le A11
 have N3_11:=D.n1 8 (lt_of B3) E3_8
 replace B3:=D.k B3
 simp only [Value.cells,E3_2,E3_6,E3_8] at B11
 replace F_x5:=D.gr (RatN c.b.re) F_x5
 replace F_x6:=D.gr (RatN c.b.im) F_x6
 clear D
 refine wp_seq_k fun _ K12=>?_
 refine gs 18 (Amb S W) fun _ K13=>?_
 refine .mz rfl 5 E2_8 ?_
 refine .e rfl (V:=.bool false) (fun H=>x_not (H.g 21 0)) ?_
 refine .mv rfl 1 ?_
 refine .fz rfl 6 0 E3_8 ?_ (hg:=gq 2 rfl)
 refine .lc rfl 3 B11 ?_ (V:=pt b9) (hg:=gq 2 rfl)
 refine .e rfl (V:=.bool false) (fun H=>x_pnE (H.g 25 4) (H.c _)) ?_ (hg:=gq 2 rfl)
 refine .e rfl (fun H=>x_pkF (H.g 23 2) (H.g 26 5)) ?_
 refine .mv rfl 6 ?_
 refine .fz rfl 6 3 E3_8 ?_ (hg:=gq 7 rfl)
 refine .lc rfl 8 B11 ?_ (V:=pt b10) (hg:=gq 7 rfl)
 refine .e rfl (V:=.bool false) (fun H=>x_pnE (H.g 30 9) (H.c _)) ?_ (hg:=gq 7 rfl)
 refine .e rfl (fun H=>x_pkF (H.g 28 7) (H.g 31 10)) ?_
 refine .mv rfl 11 ?_
 refine .lr rfl 6 E3_8 B11 ?_ (hg:=gq 12 rfl)
 refine .cR rfl [] Tryz.func141 (fun H=>⟨_,ar1 (H.g 34 13),rgPow c (RingP.mk (H.was _ [] (VP.at F9 L9)) (H.was _ [] F_x5) (H.was _ [] F_x6) (H.was _ [] (VP.at F10 L10))) (by first | omega | exact (and_3 p0).1 | exact (and_3 p0).2.1 | exact (and_3 p0).2.2 | exact pos_flat p1)⟩) ?_ (hg:=gq 12 rfl)
 refine .cK rfl Tryz.func140 (fun H=>⟨_,ar1 (H.r 35 14),qSign _ (SV.any (H.a 14 rfl))⟩) ?_ (hg:=gq 12 rfl)
 refine .e rfl (V:=.bool false) (fun H=>x_cm (H.g 36 15) (H.c _) (pos_le p1)) ?_ (hg:=gq 12 rfl)
 refine .e rfl (fun H=>x_pkF (H.g 33 12) (H.g 37 16)) ?_
 refine .dk (fun u=>ciV c::sq u1 0 3 (u2 6::u2 8::u3 8::u2 3::sq u2 0 3 (u2 4::u2 5::sq u3 0 8 (sq u 0 18 (us 6))))) K13 bel fun u4 w4 D bel=>?_
 have E4_17:=D.q 17
 replace B3:=D.k B3
 replace B11:=D.k B11
 replace F9:=D.o L9 F9
 replace F10:=D.o L10 F10
 replace F_x5:=D.gr (RatN c.b.re) F_x5
 replace F_x6:=D.gr (RatN c.b.im) F_x6
 clear D
 refine wp_cond_false (by exact E4_17) ?_
 refine wp_skip ?_
 refine K12 _ _ ?_
 refine gd1 7 (Amb S W) 5 B3 fun _ K14=>?_
 refine .e rfl (fun H=>x_ldr (H.z 6 E3_8) (H.b1 B11 N3_11)) ?_
 refine .e rfl (fun H=>x_ldr (H.z 6 E3_8) (H.b1 B11 N3_11)) ?_
 refine .cR rfl [] Tryz.func144 (fun H=>⟨_,ar1 (H.g 41 1),rgNorm c (RingP.mk (H.was _ [] (VP.at F9 L9)) (H.was _ [] F_x5) (H.was _ [] F_x6) (H.was _ [] (VP.at F10 L10))) (by first | omega | exact (and_3 p0).1 | exact (and_3 p0).2.1 | exact (and_3 p0).2.2 | exact pos_flat p1) (by first | omega | exact (and_3 p0).1 | exact (and_3 p0).2.1 | exact (and_3 p0).2.2 | exact pos_flat p1)⟩) ?_
 refine .e rfl (fun H=>x_ldr (H.z 6 E3_8) (H.b1 B11 N3_11)) ?_
 refine .cK rfl Tryz.func241 (fun H=>⟨_,ar2 (H.r 42 2) (H.g 43 3),rgSame c.nrm c (SV.any (H.a 2 rfl)) (RingP.mk (VP.any _ (H.was _ [] (VP.at F9 L9))) (VP.any _ (H.was _ [] F_x5)) (VP.any _ (H.was _ [] F_x6)) (VP.any _ (H.was _ [] (VP.at F10 L10)))) (by first | omega | exact (and_3 p0).1 | exact (and_3 p0).2.1 | exact (and_3 p0).2.2 | exact pos_flat p1)⟩) ?_
 refine Go2.storeOld (i:=5) 0 b3 rfl rfl rfl ⟨_,_,_,B3,rfl⟩ (SP.old 0 b3 [] (fun u=>#[pt b9,x5,x6,pt b10]) 203 (by intro u u' h; simp []) (lt_of B3) (by intro y k hy; match y,hy with | 0,hy=>rfl)) (fun u μ ρ H=>?_) ?_
 · have e2:=H.z 2 E1_1; have e40:=H.g 40 0; have o_x5:=VP1.ratn F_x5; have o_x6:=VP1.ratn F_x6; have hb:=H.blkOld B3 0 5 rfl (.inl rfl)
   refine ⟨μ.setRow b3 #[pt b9,x5,x6,pt b10],ex_store_row 203 _ _ rfl e2 e40 hb (by kernel_rfl) rfl (by simp [o_x5,o_x6,ptr1] <;> rfl),fun g=>?_,setRow_only _ _ _⟩
   show (World.setRow _ _ _).heap[b3]? = _
   rw [setRow_at hb]; try simp [upd]
 refine .mv rfl 4 ?_
 refine .d1 (fun u=>ciV c::u1 0::u1 1::u 6::u2 6::u2 8::u3 8::u2 3::sq u2 0 3 (u2 4::u2 5::sq u3 0 8 (sq u4 0 18 (U::sq u 0 5 [])))) K14 bel A3 fun u5 w5 D bel=>?_
 have E5_6:=D.q 6
 replace B3:=D.ol 5
 replace F9:=D.o L9 F9
 replace F10:=D.o L10 F10
 replace F_x5:=D.gr (RatN c.b.re) F_x5
 replace F_x6:=D.gr (RatN c.b.im) F_x6
 clear D
 refine wp_ret ?_
 refine ret_ok rfl (by exact results_mix rfl (by exact E1_1) B3 Tryz.underlying203 rfl (by kernel_rfl) (by exact E5_6)) ⟨_,rfl,?_,bel⟩
 exact ⟨_,_,rfl,(RingP.mk (VP.at F9 L9) F_x5 F_x6 (VP.at F10 L10)),rfl⟩
theorem eSpotI :
  Calls Tryz.prog 156 #[rpnV (RPn.mk true rz)] W (Ret (VP.tup (PlaceP ⟨true,⟨0,0⟩⟩) (VP.is (.bool true))) S W):=by
 have bel:=b0 W
 go_enter Tryz.func156,Tryz.ntmps156
 refine gs 3 (Amb S W) fun _ K1=>?_
 refine .bx rfl (fun H=>H.v 0 (rpnV (RPn.mk true rz))) ?_
 refine .al rfl (#[.bool false,.pointer none,.pointer none]) ?_
 refine .mc rfl ?_
 refine .dk (fun u=>rpnV (RPn.mk true rz)::sq u 0 3 (us 17)) K1 bel fun u1 w1 D bel=>?_
 obtain ⟨b2,E1_0,A2,B2⟩:=D.nw 0
 obtain ⟨b3,E1_1,A3,B3⟩:=D.nw 1
 have E1_2:=D.q 2
 have N2_3:=D.n2 0 1 E1_0 E1_1
 clear D
 refine wp_seq_k fun _ K4=>?_
 refine gs 2 (Amb S W) fun _ K5=>?_
 refine .fz rfl 1 0 E1_0 ?_
 refine .lc rfl 0 B2 ?_ (V:=.bool true)
 refine .dk (fun u=>rpnV (RPn.mk true rz)::sq u1 0 3 (U::U::u 0::u 1::us 13)) K5 bel fun u2 w2 D bel=>?_
 have E2_1:=D.q 1
 replace B2:=D.k B2
 replace B3:=D.k B3
 clear D
 refine wp_cond_true (by exact E2_1) ?_
 refine gd1 6 (Amb S W) 4 B3 fun _ K6=>?_
 refine .e rfl (V:=.agg #[.bool true,.pointer none,.pointer none]) (fun H=>by have k0:=H.c (.bool true); clear H; go_simp) ?_
 refine .e rfl (fun H=>x_ldr (H.z 1 E1_0) (H.b1 B2 (Ne.symm N2_3))) ?_
 refine .e rfl (V:=rpnV (RPn.mk true rz)) (fun H=>by have k0:=H.c (.bool true); clear H; go_simp) ?_
 refine .e rfl (V:=.bool true) (fun H=>ex_eql_pn (r:=RPn.mk true rz) (q:=RPn.mk true rz) _ _ rfl (H.g 9 1) (H.g 10 2) (rfl.trans (decide_eq_true rfl))) ?_
 refine .s1 rfl B3 (fun H=>⟨H.z 2 E1_1,H.g 8 0⟩) ?_
 refine .mv rfl 3 ?_
 refine .d1 (fun u=>rpnV (RPn.mk true rz)::u1 0::u1 1::u 5::U::U::u2 0::u2 1::sq u 0 4 (us 9)) K6 bel A3 fun u3 w3 D bel=>?_
 have E3_5:=D.q 5
 replace B3:=D.ol 4
 clear D
 refine wp_ret ?_
 refine ret_ok rfl (by exact results_mix rfl (by exact E1_1) B3 Tryz.underlying229 rfl (by kernel_rfl) (by exact E3_5)) ⟨_,rfl,?_,bel⟩
 exact ⟨_,_,rfl,(PlaceP.mk (.inl ⟨rfl,rfl⟩) (.inl ⟨rfl,rfl⟩)),(rfl)⟩
theorem eSpotZ (z:Cx) (p0:gfits (rg z) = true) :
  Calls Tryz.prog 156 #[pnV (Pn.mk false z)] W (Ret (VP.tup (PlaceP ⟨false,z⟩) (VP.is (.bool true))) S W):=by
 have bel:=b0 W
 go_enter Tryz.func156,Tryz.ntmps156
 refine gs 3 (Amb S W) fun _ K1=>?_
 refine .bx rfl (fun H=>H.v 0 (pnV (Pn.mk false z))) ?_
 refine .al rfl (#[.bool false,.pointer none,.pointer none]) ?_
 refine .mc rfl ?_
 refine .dk (fun u=>pnV (Pn.mk false z)::sq u 0 3 (us 17)) K1 bel fun u1 w1 D bel=>?_
 obtain ⟨b2,E1_0,A2,B2⟩:=D.nw 0
 obtain ⟨b3,E1_1,A3,B3⟩:=D.nw 1
 have E1_2:=D.q 2
 have N2_3:=D.n2 0 1 E1_0 E1_1
 clear D
 refine wp_seq_k fun _ K4=>?_
 refine gs 2 (Amb S W) fun _ K5=>?_
 refine .fz rfl 1 0 E1_0 ?_
 refine .lc rfl 0 B2 ?_ (V:=.bool false)
 refine .dk (fun u=>pnV (Pn.mk false z)::sq u1 0 3 (U::U::u 0::u 1::us 13)) K5 bel fun u2 w2 D bel=>?_
 have E2_1:=D.q 1
 replace B2:=D.k B2
 replace B3:=D.k B3
 clear D
 refine wp_cond_false (by exact E2_1) ?_
 refine wp_skip ?_
 refine K4 _ _ ?_
 refine gs 9 (Amb S W) fun _ K6=>?_
 refine .fz rfl 1 1 E1_0 ?_
 refine .lp rfl 0 (gC z) B2 ?_
 refine .cR rfl [] Tryz.func197 (fun H=>⟨_,ar1 (H.g 14 1),eOf _ (by assumption)⟩) ?_
 refine .mn rfl 2 [2] ?_
 refine Go2.fn (i:=4) rfl (G0 rfl) (.val 4 [2,3] (NumP z)) (fun u μ ρ H=>by have e12:=H.r 12 3; have h0:=(H.a 3 rfl); obtain ⟨x0,x1,h1,h2⟩:=h0; rw [h1] at e12; exact ⟨x0,by clear H; go_simp,SP.tupKeep (by decide) (by decide) h2.1⟩) ?_
 refine .e rfl (V:=.bool true) (fun H=>by have e12:=H.r 12 3; have h0:=(H.a 3 rfl); obtain ⟨x0,x1,h1,h2,h3⟩:=h0; rw [h1] at e12; have h3:x1 = .bool true:=h3; subst h3; clear H; go_simp) ?_
 refine .al rfl (#[.pointer none,.pointer none]) ?_
 refine Go2.storeOwn (i:=7) (m:=6) rfl rfl (.head _) (SP.cells 6 [4] (fun u=>#[((u 4).v.cells.getD 0 undef),((u 4).v.cells.getD 1 undef)]) 178 (by intro u u' h; simp [h 4 (by simp)])) (fun u μ ρ b H h0 hB hb=>?_) ?_
 · have e4:=H.r 4 6; have e16:=H.r 16 4
   rw [h0] at e4
   obtain ⟨x1,x2,h1,h2,h3⟩:=(H.a 4 rfl)
   have o1:=VP1.ratn h2
   have o2:=VP1.ratn h3
   rw [h1] at e16
   refine ⟨μ.setRow b #[x1,x2],ex_store_row 178 _ _ rfl e4 e16 hb (by kernel_rfl) rfl (by simp [o1,o2]),fun g=>⟨b,?_,hB,?_⟩,setRow_only _ _ _⟩
   · rw [upd_other _ _ (by decide)]; exact h0
   · rw [setRow_at hb]; try simp [upd,h1,Value.cells]
 refine .mv rfl 5 ?_
 refine .dk (fun u=>pnV (Pn.mk false z)::sq u1 0 3 (u 6::u 8::u2 0::u2 1::U::U::U::U::u 3::sq u 0 3 (u 4::u 5::us 3))) K6 bel fun u3 w3 D bel=>?_
 obtain ⟨x7,x8,E3_4,F_x7,F_x8⟩:=(D.rr 4)
 obtain ⟨b9,E3_6,A9,B9⟩:=(D.a 7 rfl)
 replace A9:=le2 D.le A9
 have E3_8:=D.q 8
 have N3_9:=D.n1 6 (lt_of B3) E3_6
 replace B3:=D.k B3
 simp only [Value.cells,E3_4,E3_6] at B9
 replace B9:w3.heap[b9]? = some (.cells #[x7,x8] 178 (0,0)):=B9
 clear D
 refine gs1 5 (Amb S W) 3 B3 fun _ K10=>?_
 refine .e rfl (fun H=>x_ldr (H.z 4 E3_6) (H.b1 B9 N3_9)) ?_
 refine .e rfl (V:=.agg #[.bool false,x7,x8]) (fun H=>by have e18:=H.g 18 0; clear H; go_simp) ?_
 refine .mz rfl 5 E3_8 ?_
 refine Go2.storeOld (i:=3) 0 b3 rfl rfl rfl ⟨_,_,_,B3,rfl⟩ (SP.old 0 b3 [] (fun u=>#[.bool false,x7,x8]) 229 (by intro u u' h; simp []) (lt_of B3) (by intro y k hy; match y,hy with | 0,hy=>rfl)) (fun u μ ρ H=>?_) ?_
 · have e2:=H.z 2 E1_1; have e19:=H.g 19 1; have o_x7:=VP1.ratn F_x7; have o_x8:=VP1.ratn F_x8; have hb:=H.blkOld B3 0 3 rfl (.inl rfl)
   refine ⟨μ.setRow b3 #[.bool false,x7,x8],ex_store_row 229 _ _ rfl e2 e19 hb (by kernel_rfl) rfl (by simp [o_x7,o_x8] <;> rfl),fun g=>?_,setRow_only _ _ _⟩
   show (World.setRow _ _ _).heap[b3]? = _
   rw [setRow_at hb]; try simp [upd]
 refine .mv rfl 2 ?_
 refine .d1 (fun u=>pnV (Pn.mk false z)::u1 0::u1 1::u 4::u3 6::u3 8::u2 0::u2 1::U::U::U::U::u3 3::sq u3 0 3 (u3 4::u3 5::sq u 0 3 [])) K10 bel A3 fun u4 w4 D bel=>?_
 have E4_4:=D.q 4
 replace B3:=D.ol 3
 replace F_x7:=D.gr (RatN z.re) F_x7
 replace F_x8:=D.gr (RatN z.im) F_x8
 clear D
 refine wp_ret ?_
 refine ret_ok rfl (by exact results_mix rfl (by exact E1_1) B3 Tryz.underlying229 rfl (by kernel_rfl) (by exact E4_4)) ⟨_,rfl,?_,bel⟩
 exact ⟨_,_,rfl,(PlaceP.mk F_x7 F_x8),rfl⟩
theorem eSpotJ (r:RPn) :
  Calls Tryz.prog 156 #[rpnV r] W (Ret (VP.tup (PlaceJ 0) (VP.is (.bool (pnOk r)))) S W):=by
 have bel:=b0 W
 go_enter Tryz.func156,Tryz.ntmps156
 refine gs 3 (Amb S W) fun _ K1=>?_
 refine .bx rfl (fun H=>H.v 0 (rpnV r)) ?_
 refine .al rfl (#[.bool false,.pointer none,.pointer none]) ?_
 refine .mc rfl ?_
 refine .dk (fun u=>rpnV r::sq u 0 3 (us 17)) K1 bel fun u1 w1 D bel=>?_
 obtain ⟨b2,E1_0,A2,B2⟩:=D.nw 0
 obtain ⟨b3,E1_1,A3,B3⟩:=D.nw 1
 have E1_2:=D.q 2
 have N2_3:=D.n2 0 1 E1_0 E1_1
 clear D
 refine wp_seq_k fun _ K4=>?_
 refine gs 2 (Amb S W) fun _ K5=>?_
 refine .fz rfl 1 0 E1_0 ?_
 refine .lc rfl 0 B2 ?_ (V:=.bool r.inf)
 refine .dk (fun u=>rpnV r::sq u1 0 3 (U::U::u 0::u 1::us 13)) K5 bel fun u2 w2 D bel=>?_
 have E2_1:=D.q 1
 replace B2:=D.k B2
 replace B3:=D.k B3
 clear D
 rcases Bool.eq_false_or_eq_true r.inf with c6 | c6
 ·
  refine wp_cond_true ((E2_1).trans (congrArg Value.bool c6)) ?_
  refine gd1 6 (Amb S W) 4 B3 fun _ K7=>?_
  refine .e rfl (V:=.agg #[.bool true,.pointer none,.pointer none]) (fun H=>by have k0:=H.c (.bool true); clear H; go_simp) ?_
  refine .e rfl (fun H=>x_ldr (H.z 1 E1_0) (H.b1 B2 (Ne.symm N2_3))) ?_
  refine .e rfl (V:=rpnV (RPn.mk true rz)) (fun H=>by have k0:=H.c (.bool true); clear H; go_simp) ?_
  refine .e rfl (V:=.bool (decide (r = RPn.mk true rz))) (fun H=>ex_eql_pn (r:=r) (q:=RPn.mk true rz) _ _ rfl (H.g 9 1) (H.g 10 2) rfl) ?_
  refine .s1 rfl B3 (fun H=>⟨H.z 2 E1_1,H.g 8 0⟩) ?_
  refine .mv rfl 3 ?_
  refine .d1 (fun u=>rpnV r::u1 0::u1 1::u 5::U::U::u2 0::u2 1::sq u 0 4 (us 9)) K7 bel A3 fun u3 w3 D bel=>?_
  have E3_5:=D.q 5
  replace B3:=D.ol 4
  clear D
  refine wp_ret ?_
  refine ret_ok rfl (by exact results_mix rfl (by exact E1_1) B3 Tryz.underlying229 rfl (by kernel_rfl) (by exact E3_5)) ⟨_,rfl,?_,bel⟩
  exact ⟨_,_,rfl,(PlaceJ.mk (show Value.oneCell' _ = true from rfl) ⟨_,rfl⟩ ⟨_,rfl⟩),(spot_1 c6)⟩
 ·
  refine wp_cond_false ((E2_1).trans (congrArg Value.bool c6)) ?_
  refine wp_skip ?_
  refine K4 _ _ ?_
  refine gs 9 (Amb S W) fun _ K8=>?_
  refine .fz rfl 1 1 E1_0 ?_
  refine .lp rfl 0 (rgC r.z) B2 ?_
  refine .cR rfl [] Tryz.func197 (fun H=>⟨_,ar1 (H.g 14 1),eOfR _⟩) ?_
  refine .mn rfl 2 [2] ?_
  refine Go2.fn (i:=4) rfl (G0 rfl) (.val 4 [2,3] (NumP (gvm r.z))) (fun u μ ρ H=>by have e12:=H.r 12 3; have h0:=(H.a 3 rfl); obtain ⟨x0,x1,h1,h2⟩:=h0; rw [h1] at e12; exact ⟨x0,by clear H; go_simp,SP.tupKeep (by decide) (by decide) h2.1⟩) ?_
  refine .e rfl (V:=.bool (gmay r.z)) (fun H=>by have e12:=H.r 12 3; have h0:=(H.a 3 rfl); obtain ⟨x0,x1,h1,h2,h3⟩:=h0; rw [h1] at e12; have h3:x1 = .bool (gmay r.z):=h3; subst h3; clear H; go_simp) ?_
  refine .al rfl (#[.pointer none,.pointer none]) ?_
  refine Go2.storeOwn (i:=7) (m:=6) rfl rfl (.head _) (SP.cells 6 [4] (fun u=>#[((u 4).v.cells.getD 0 undef),((u 4).v.cells.getD 1 undef)]) 178 (by intro u u' h; simp [h 4 (by simp)])) (fun u μ ρ b H h0 hB hb=>?_) ?_
  · have e4:=H.r 4 6; have e16:=H.r 16 4
    rw [h0] at e4
    obtain ⟨x1,x2,h1,h2,h3⟩:=(H.a 4 rfl)
    have o1:=VP1.ratn h2
    have o2:=VP1.ratn h3
    rw [h1] at e16
    refine ⟨μ.setRow b #[x1,x2],ex_store_row 178 _ _ rfl e4 e16 hb (by kernel_rfl) rfl (by simp [o1,o2]),fun g=>⟨b,?_,hB,?_⟩,setRow_only _ _ _⟩
    · rw [upd_other _ _ (by decide)]; exact h0
    · rw [setRow_at hb]; try simp [upd,h1,Value.cells]
  refine .mv rfl 5 ?_
  refine .dk (fun u=>rpnV r::sq u1 0 3 (u 6::u 8::u2 0::u2 1::U::U::U::U::u 3::sq u 0 3 (u 4::u 5::us 3))) K8 bel fun u4 w4 D bel=>?_
  obtain ⟨x9,x10,E4_4,F_x9,F_x10⟩:=(D.rr 4)
  obtain ⟨b11,E4_6,A11,B11⟩:=(D.a 7 rfl)
  replace A11:=le2 D.le A11
  have E4_8:=D.q 8
  have N3_11:=D.n1 6 (lt_of B3) E4_6
  replace B3:=D.k B3
  simp only [Value.cells,E4_4,E4_6] at B11
  replace B11:w4.heap[b11]? = some (.cells #[x9,x10] 178 (0,0)):=B11
  clear D
  refine gs1 5 (Amb S W) 3 B3 fun _ K12=>?_
  refine .e rfl (fun H=>x_ldr (H.z 4 E4_6) (H.b1 B11 N3_11)) ?_
  refine .e rfl (V:=.agg #[.bool false,x9,x10]) (fun H=>by have e18:=H.g 18 0; clear H; go_simp) ?_
  refine .mz rfl 5 E4_8 ?_
  refine Go2.storeOld (i:=3) 0 b3 rfl rfl rfl ⟨_,_,_,B3,rfl⟩ (SP.old 0 b3 [] (fun u=>#[.bool false,x9,x10]) 229 (by intro u u' h; simp []) (lt_of B3) (by intro y k hy; match y,hy with | 0,hy=>rfl)) (fun u μ ρ H=>?_) ?_
  · have e2:=H.z 2 E1_1; have e19:=H.g 19 1; have o_x9:=VP1.ratn F_x9; have o_x10:=VP1.ratn F_x10; have hb:=H.blkOld B3 0 3 rfl (.inl rfl)
    refine ⟨μ.setRow b3 #[.bool false,x9,x10],ex_store_row 229 _ _ rfl e2 e19 hb (by kernel_rfl) rfl (by simp [o_x9,o_x10] <;> rfl),fun g=>?_,setRow_only _ _ _⟩
    show (World.setRow _ _ _).heap[b3]? = _
    rw [setRow_at hb]; try simp [upd]
  refine .mv rfl 2 ?_
  refine .d1 (fun u=>rpnV r::u1 0::u1 1::u 4::u4 6::u4 8::u2 0::u2 1::U::U::U::U::u4 3::sq u4 0 3 (u4 4::u4 5::sq u 0 3 [])) K12 bel A3 fun u5 w5 D bel=>?_
  have E5_4:=D.q 4
  replace B3:=D.ol 3
  replace F_x9:=D.gr (RatN ((gvm r.z).re)) F_x9
  replace F_x10:=D.gr (RatN ((gvm r.z).im)) F_x10
  clear D
  refine wp_ret ?_
  refine ret_ok rfl (by exact results_mix rfl (by exact E1_1) B3 Tryz.underlying229 rfl (by kernel_rfl) (by exact E5_4)) ⟨_,rfl,?_,bel⟩
  exact ⟨_,_,rfl,(PlaceJ.mk (show Value.oneCell' _ = true from rfl) (RatN.ptr F_x9) (RatN.ptr F_x10)),(spot_0 c6)⟩
end Go.Proofs.YtcpjdjnaipbieaaGreat
namespace Go.Proofs.YtcpjdjnaipbieaaGreat
open Go.RowKit Rgn
theorem tupJ {φ:VP} {S:Nat → Prop} {w:World} {v:Value} (h:φ.p S v w):(VP.tup φ (VP.is (.bool false))).p S (.tuple #[v,.bool false]) w:=⟨_,_,rfl,h,rfl⟩
theorem ringJ0 {S:Nat → Prop} {w:World}:(RingJ 0).p S (.agg #[.pointer none,.pointer none,.pointer none,.pointer none]) w:=⟨_,_,_,_,rfl,⟨_,rfl⟩,⟨_,rfl⟩,⟨_,rfl⟩,⟨_,rfl⟩⟩
theorem toJ {P:Program} {f:FuncId} {args:Array Value} {W:World} {φ ψ:VP} {b:Bool} {S:Nat → Prop} (h:Calls P f args W (Ret (VP.tup φ (VP.is (.bool b))) S W)) (hb:b = false) (hj:∀ v w (S:Nat → Prop),φ.p S v w → ψ.p S v w):Calls P f args W (Ret (VP.tup ψ (VP.is (.bool false))) S W):=by
 subst hb
 exact h.mono fun _ _ ⟨v,h1,⟨a,b,h2,h3,h4⟩,h5⟩=>⟨v,h1,⟨a,b,h2,hj _ _ _ h3,h4⟩,h5⟩
theorem eWheelO {S:Nat → Prop} {W:World} (c:Ci) (p0:ciOk (rci c) = true):Calls Tryz.prog 155 #[ciV c] W (Ret (VP.tup (RingP c) (VP.is (.bool true))) S W):=by
 obtain ⟨h1,h2,h3⟩:=ciOk_c p0
 have h:=eWheelY (S:=S) (W:=W) c h1 h2
 rw [decide_eq_true h3] at h
 exact h
theorem eWheelN {S:Nat → Prop} {W:World} (r:RCi) (p0:ciOk r = false):Calls Tryz.prog 155 #[rciV r] W (Ret (VP.tup (RingJ 0) (VP.is (.bool false))) S W):=by
 cases h1:gmay r.b with
 | false=>exact retOf (eWheelA r h1) fun _=>tupJ ringJ0
 | true =>
  cases h2:fmay r.a with
  | false=>exact retOf (eWheelB r h1 h2) fun _=>tupJ ringJ0
  | true =>
   cases h3:fmay r.c with
   | false=>exact retOf (eWheelC r h1 h2 h3) fun _=>tupJ ringJ0
   | true =>
    obtain ⟨c,rfl,hf⟩:=ci_of h2 h1 h3
    cases h4:c.pos with
    | false=>exact retOf (eWheelP c hf h4) fun _=>tupJ ringJ0
    | true =>
     refine toJ (eWheelY c hf h4) (decide_eq_false fun e=>?_) fun _ _ _ h=>RingP.j h
     exact ciOk_no p0 ⟨c,rfl,hf,h4,e⟩
end Go.Proofs.YtcpjdjnaipbieaaGreat
namespace Go.Proofs.YtcpjdjnaipbieaaGreat
open Go.RowKit Rgn Eng
set_option maxHeartbeats 4000000
set_option maxRecDepth 100000
variable {S:Nat → Prop} {W:World}
theorem eOpenR (r:RMb) :
  Calls Tryz.prog 131 #[rmbV r] W (RetAnd (RetIf (((((gmay r.a) && (gmay r.b)) && (gmay r.c)) && (gmay r.d)) = false) (RetV (.tuple #[.agg #[.pointer none,.pointer none,.pointer none,.pointer none,.pointer none,.pointer none,.pointer none,.pointer none,.bool false],.bool false]) W)) (RetAnd (RetIf (((((gmay r.a) && (gmay r.b)) && (gmay r.c)) && (gmay r.d)) = true ∧ (((Mb.mk (gvm r.a) (gvm r.b) (gvm r.c) (gvm r.d) r.t).det).zero) = true) (RetV (.tuple #[.agg #[.pointer none,.pointer none,.pointer none,.pointer none,.pointer none,.pointer none,.pointer none,.pointer none,.bool false],.bool false]) W)) (RetIf (((((gmay r.a) && (gmay r.b)) && (gmay r.c)) && (gmay r.d)) = true ∧ (((Mb.mk (gvm r.a) (gvm r.b) (gvm r.c) (gvm r.d) r.t).det).zero) = false) (Ret (VP.tup (MatP (mvm r)) (VP.is (.bool (mvm r).form))) S W)))):=by
 have f:=mvm_ht r
 have o1:ht (Cx.ofInt (1:Int) (0:Int)).re = 2:=by decide
 have o2:ht (Cx.ofInt (1:Int) (0:Int)).im = 2:=by decide
 refine Run.goP (S:=S) (Pack.nil.k (rmbV r) (rmbC r).toList (.s (.agg (ks 0 33)))) Tryz.func131 rfl ?_
 refine Run.cR spNumK (fun β ℓ w H=>eOfR r.a) ?_
 refine Run.cR spNumK (fun β ℓ w H=>eOfR r.b) ?_
 refine Run.an (gmay r.a) (gmay r.b) ?_
 refine Run.cR spNumK (fun β ℓ w H=>eOfR r.c) ?_
 refine Run.an (gmay r.a && gmay r.b) (gmay r.c) ?_
 refine Run.cR spNumK (fun β ℓ w H=>eOfR r.d) ?_
 refine Run.an (gmay r.a && gmay r.b && gmay r.c) (gmay r.d) ?_
 rcases Bool.eq_false_or_eq_true (gmay r.a && gmay r.b && gmay r.c && gmay r.d) with h1 | h1
 · refine Run.kn h1 ?_
   refine Run.cR spNum (fun β ℓ w H=>mtDet (Mb.mk (gvm r.a) (gvm r.b) (gvm r.c) (gvm r.d) r.t) (MatP.mk (H.f 0) (H.f 1) (H.f 2) (H.f 3) (H.f 4) (H.f 5) (H.f 6) (H.f 7)) (by dsimp only at *; omega)) ?_
   refine Run.cV [.bool (Mb.mk (gvm r.a) (gvm r.b) (gvm r.c) (gvm r.d) r.t).det.zero] kb (fun β ℓ w H=>eZero (Mb.mk (gvm r.a) (gvm r.b) (gvm r.c) (gvm r.d) r.t).det (NumP.mk (H.f 8) (H.f 9))) ?_
   rcases Bool.eq_false_or_eq_true (Mb.mk (gvm r.a) (gvm r.b) (gvm r.c) (gvm r.d) r.t).det.zero with h2 | h2
   · refine Run.kn h2 ?_
     exact Run.fin (fun β ℓ w I=>⟨fun c=>absurd c (by simp [h1]),fun _=>RetV.mk rfl I.bel,fun c=>absurd c.2 (by simp [h2])⟩)
   · refine Run.kn h2 ?_
     refine Run.cR spNum (fun β ℓ w H=>eInt 1 0 (by decide) (by decide) (by decide) (by decide)) ?_
     have fin:∀ {b:Bool} {β:Nat → Nat} {ℓ:Nat → Value} {w:World},b = (mvm r).form → (RatN (mvm r).a.re).p (Amb S W) (ℓ 0) w → (RatN (mvm r).a.im).p (Amb S W) (ℓ 1) w → (RatN (mvm r).b.re).p (Amb S W) (ℓ 2) w → (RatN (mvm r).b.im).p (Amb S W) (ℓ 3) w → (RatN (mvm r).c.re).p (Amb S W) (ℓ 4) w → (RatN (mvm r).c.im).p (Amb S W) (ℓ 5) w → (RatN (mvm r).d.re).p (Amb S W) (ℓ 6) w → (RatN (mvm r).d.im).p (Amb S W) (ℓ 7) w → Below W.heap.size W w →
         RetAnd (RetIf ((gmay r.a && gmay r.b && gmay r.c && gmay r.d) = false) (RetV (.tuple #[.agg #[.pointer none,.pointer none,.pointer none,.pointer none,.pointer none,.pointer none,.pointer none,.pointer none,.bool false],.bool false]) W)) (RetAnd (RetIf ((gmay r.a && gmay r.b && gmay r.c && gmay r.d) = true ∧ (Mb.mk (gvm r.a) (gvm r.b) (gvm r.c) (gvm r.d) r.t).det.zero = true) (RetV (.tuple #[.agg #[.pointer none,.pointer none,.pointer none,.pointer none,.pointer none,.pointer none,.pointer none,.pointer none,.bool false],.bool false]) W)) (RetIf ((gmay r.a && gmay r.b && gmay r.c && gmay r.d) = true ∧ (Mb.mk (gvm r.a) (gvm r.b) (gvm r.c) (gvm r.d) r.t).det.zero = false) (Ret (VP.tup (MatP (mvm r)) (VP.is (.bool (mvm r).form))) S W))) (.returned (.tuple #[.agg #[ℓ 0,ℓ 1,ℓ 2,ℓ 3,ℓ 4,ℓ 5,ℓ 6,ℓ 7,.bool r.t],.bool b])) w :=
       fun e g0 g1 g2 g3 g4 g5 g6 g7 bel=>⟨fun c=>absurd c (by simp [h1]),fun c=>absurd c.2 (by simp [h2]),fun _=>⟨_,rfl,⟨_,_,rfl,MatP.mk g0 g1 g2 g3 g4 g5 g6 g7,congrArg Value.bool e⟩,bel⟩⟩
     rcases Bool.eq_false_or_eq_true (((gvm r.c).sub (Cx.ofInt (1:Int) (0:Int))).zero) with c1 | c1
     · refine Run.dr ?_
       refine RunD.cV [] (cb true) (fun β ℓ w H=>eSame (gvm r.c) (Cx.ofInt 1 0) (NumP.mk (H.f 4) (H.f 5)) (NumP.mk (H.f 10) (H.f 11)) (by dsimp only at *; omega)) ?_ (hV:=fun _ _=>congrArg Value.bool c1)
       refine RunD.en ?_
       exact Run.fin (fun β ℓ w H=>fin (β:=β) (form_1 (m:=mvm r) c1).symm (H.f 0) (H.f 1) (H.f 2) (H.f 3) (H.f 4) (H.f 5) (H.f 6) (H.f 7) H.bel)
     · rcases Bool.eq_false_or_eq_true ((gvm r.c).zero) with c2 | c2
       · refine Run.dr ?_
         refine RunD.cV [] (cb false) (fun β ℓ w H=>eSame (gvm r.c) (Cx.ofInt 1 0) (NumP.mk (H.f 4) (H.f 5)) (NumP.mk (H.f 10) (H.f 11)) (by dsimp only at *; omega)) ?_ (hV:=fun _ _=>congrArg Value.bool c1)
         refine RunD.cV [] (cb true) (fun β ℓ w H=>eZero (gvm r.c) (NumP.mk (H.f 4) (H.f 5))) ?_ (hV:=fun _ _=>congrArg Value.bool c2)
         refine RunD.cV [.bool ((mvm r).d.sub (Cx.ofInt 1 0)).zero] kb (fun β ℓ w H=>eSame (gvm r.d) (Cx.ofInt 1 0) (NumP.mk (H.f 6) (H.f 7)) (NumP.mk (H.f 10) (H.f 11)) (by dsimp only at *; omega)) ?_
         refine RunD.en ?_
         exact Run.fin (fun β ℓ w H=>fin (β:=β) (form_3 (m:=mvm r) c1 c2).symm (H.f 0) (H.f 1) (H.f 2) (H.f 3) (H.f 4) (H.f 5) (H.f 6) (H.f 7) H.bel)
       · refine Run.dr ?_
         refine RunD.cV [] (cb false) (fun β ℓ w H=>eSame (gvm r.c) (Cx.ofInt 1 0) (NumP.mk (H.f 4) (H.f 5)) (NumP.mk (H.f 10) (H.f 11)) (by dsimp only at *; omega)) ?_ (hV:=fun _ _=>congrArg Value.bool c1)
         refine RunD.cV [] (cb false) (fun β ℓ w H=>eZero (gvm r.c) (NumP.mk (H.f 4) (H.f 5))) ?_ (hV:=fun _ _=>congrArg Value.bool c2)
         refine RunD.en ?_
         exact Run.fin (fun β ℓ w H=>fin (β:=β) (form_2 (m:=mvm r) c1 c2).symm (H.f 0) (H.f 1) (H.f 2) (H.f 3) (H.f 4) (H.f 5) (H.f 6) (H.f 7) H.bel)
 · refine Run.kn h1 ?_
   exact Run.fin (fun β ℓ w I=>⟨fun _=>RetV.mk rfl I.bel,fun c=>absurd c.1 (by simp [h1]),fun c=>absurd c.1 (by simp [h1])⟩)
end Go.Proofs.YtcpjdjnaipbieaaGreat
namespace Go.Proofs.YtcpjdjnaipbieaaGreat
open Go.RowKit Rgn
theorem eOpenO {S:Nat → Prop} {W:World} (m:Mb) (p0:mbOk (rmb m) = true):Calls Tryz.prog 131 #[mbV m] W (Ret (VP.tup (MatP m) (VP.is (.bool true))) S W):=by
 obtain ⟨h1,h2,h3⟩:=mbOk_c p0
 obtain ⟨k1,k2,k3,k4⟩:=and_4 h1
 have hg:(gmay (rg m.a) && gmay (rg m.b) && gmay (rg m.c) && gmay (rg m.d)) = true:=by rw [gmay_rg,gmay_rg,gmay_rg,gmay_rg]; exact h1
 have e:mvm (rmb m) = m:=mvm_rmb hg
 have h:=eOpenR (S:=S) (W:=W) (rmb m)
 refine h.mono fun _ _ h=>?_
 have h5:=h.2.2 ⟨hg,by show (mvm (rmb m)).det.zero = false; rw [e]; exact h2⟩
 rw [e,h3] at h5
 exact h5
end Go.Proofs.YtcpjdjnaipbieaaGreat
namespace Go.Proofs.YtcpjdjnaipbieaaGreat
open Go.RowKit Rgn Eng
set_option maxHeartbeats 8000000
set_option maxRecDepth 100000
variable {S:Nat → Prop} {W:World}
theorem l14isC (r:RCi) (e:Int) (q:RCi):Calls Tryz.prog 29 #[rciV r,.int .i64 e,rciV q] W (RetV (.bool (isCb r e q)) W):=by
 refine Run.goP (S:=Z0) (((Pack.nil.k (rciV r) (rciC r).toList (.s (.agg (ks 0 16)))).k (.int .i64 e) [.int .i64 e] kb).k (rciV q) (rciC q).toList (.s (.agg (ks 0 16)))) Tryz.func29 rfl ?_
 refine Run.cV [.bool (cifits q)] kb (fun _ _ _ H=>c11Fits q) ?_
 refine (Bool.eq_false_or_eq_true (cifits q)).elim (fun c1=>?_) (fun c1=>?_)
 · refine Run.kn c1 ?_
   refine Run.bi [.bool (decide (r = q))] kb (fun _ _ _ o1 o2 _ ho hx hy=>ex_eql_ci (r:=r) (q:=q) o1 o2 ho hx hy rfl) ?_
   refine (Bool.eq_false_or_eq_true (decide (r = q))).elim (fun c2=>?_) (fun c2=>?_)
   · refine Run.kn c2 ?_
     refine Run.cV [.int .i64 e] kb (fun _ _ _ H=>l14Num e) ?_
     refine Run.ic e 0 (e == 0) ?_
     exact Run.rV (V' := .bool (e == 0)) (isC_3 (by rw [c1]; rfl) c2)
   · refine Run.kn c2 ?_
     exact Run.rV (V' := .bool false) (isC_4 (by rw [c1]; rfl) c2)
 · refine Run.kn c1 ?_
   refine Run.bi [.bool (decide (r = rzCi))] kb (fun _ _ _ o1 o2 _ ho hx hy=>ex_eql_ci (r:=r) (q:=rzCi) o1 o2 ho hx hy rfl) ?_
   refine (Bool.eq_false_or_eq_true (decide (r = rzCi))).elim (fun c3=>?_) (fun c3=>?_)
   · refine Run.kn c3 ?_
     refine Run.cV [.int .i64 e] kb (fun _ _ _ H=>l14Num e) ?_
     refine Run.ic e 4 (e == 4) ?_
     exact Run.rV (V' := .bool (e == 4)) (isC_1 (by rw [c1]; rfl) c3)
   · refine Run.kn c3 ?_
     exact Run.rV (V' := .bool false) (isC_2 (by rw [c1]; rfl) c3)
end Go.Proofs.YtcpjdjnaipbieaaGreat
namespace Go.Proofs.YtcpjdjnaipbieaaGreat
open Go.RowKit Rgn
set_option maxHeartbeats 4000000
set_option maxRecDepth 100000
variable {S:Nat → Prop} {W:World}
theorem l14longF (r:RF) :
  Calls Tryz.prog 129 #[rfV r] W (RetV (.bool (lgF r)) W):=by
 have bel:=b0 W
 go_enter Tryz.func129,Tryz.ntmps129
 refine gs 2 (Amb Z0 W) fun _ K1=>?_
 refine .bx rfl (fun H=>H.v 0 (rfV r)) ?_
 refine .mc rfl ?_
 refine .dk (fun u=>rfV r::u 0::u 1::us 26) K1 bel fun u1 w1 D bel=>?_
 obtain ⟨b2,E1_0,A2,B2⟩:=D.nw 0
 have E1_1:=D.q 1
 clear D
 rcases Bool.eq_false_or_eq_true (decide (80 < ((r.a.s.size:Nat):Int))) with c4 | c4
 ·
  have dc4:=of_decide_eq_true c4
  rcases Bool.eq_false_or_eq_true (decide (((r.a.s.size:Nat):Int) ≤ 1024)) with c5 | c5
  ·
   have dc5:=of_decide_eq_true c5
   refine gs 27 (Amb Z0 W) fun _ K3=>?_
   refine .fz rfl 1 0 E1_0 ?_
   refine .fj rfl 0 1 ?_
   refine .lc rfl 1 B2 ?_ (V:=.string r.a.s)
   refine .e rfl (V:=.int .i64 ((r.a.s.size:Nat):Int)) (fun H=>by have e5:=H.g 5 2; clear H; go_simp) ?_
   refine .e rfl (V:=.bool true) (fun H=>x_cm (H.g 6 3) (H.c _) c4) ?_
   refine .mv rfl 4 ?_
   refine .fz rfl 1 0 E1_0 ?_ (hg:=gq 5 rfl)
   refine .fj rfl 6 1 ?_ (hg:=gq 5 rfl)
   refine .lc rfl 7 B2 ?_ (V:=.string r.a.s) (hg:=gq 5 rfl)
   refine .e rfl (V:=.int .i64 ((r.a.s.size:Nat):Int)) (fun H=>by have e11:=H.g 11 8; clear H; go_simp) ?_ (hg:=gq 5 rfl)
   refine .e rfl (V:=.bool true) (fun H=>x_cm (H.g 12 9) (H.c _) c5) ?_ (hg:=gq 5 rfl)
   refine .e rfl (fun H=>x_pkT (H.g 8 5) (H.g 13 10)) ?_
   refine .mv rfl 11 ?_
   refine .sk rfl 12 ?_
   refine .sk rfl 12 ?_
   refine .sk rfl 12 ?_
   refine .sk rfl 12 ?_
   refine .sk rfl 12 ?_
   refine .su rfl 12 ?_
   refine .sn rfl 18 ?_
   refine .sn rfl 18 ?_
   refine .sn rfl 18 ?_
   refine .sn rfl 18 ?_
   refine .sn rfl 18 ?_
   refine .sk rfl 12 ?_
   refine .e rfl (fun H=>x_pkT (H.g 15 12) (H.c _)) ?_
   refine .mv rfl 25 ?_
   refine .dk (fun u=>rfV r::u1 0::u 26::sq u 0 26 []) K3 bel fun u2 w2 D bel=>?_
   have E2_26:=D.q 26
   clear D
   exact wp_ret (rt rfl E2_26 (lg_1 c4 c5) bel)
  ·
   have dc5:=of_decide_eq_false c5
   rcases Bool.eq_false_or_eq_true (decide (80 < ((r.b.s.size:Nat):Int))) with c6 | c6
   ·
    have dc6:=of_decide_eq_true c6
    refine gs 27 (Amb Z0 W) fun _ K3=>?_
    refine .fz rfl 1 0 E1_0 ?_
    refine .fj rfl 0 1 ?_
    refine .lc rfl 1 B2 ?_ (V:=.string r.a.s)
    refine .e rfl (V:=.int .i64 ((r.a.s.size:Nat):Int)) (fun H=>by have e5:=H.g 5 2; clear H; go_simp) ?_
    refine .e rfl (V:=.bool true) (fun H=>x_cm (H.g 6 3) (H.c _) c4) ?_
    refine .mv rfl 4 ?_
    refine .fz rfl 1 0 E1_0 ?_ (hg:=gq 5 rfl)
    refine .fj rfl 6 1 ?_ (hg:=gq 5 rfl)
    refine .lc rfl 7 B2 ?_ (V:=.string r.a.s) (hg:=gq 5 rfl)
    refine .e rfl (V:=.int .i64 ((r.a.s.size:Nat):Int)) (fun H=>by have e11:=H.g 11 8; clear H; go_simp) ?_ (hg:=gq 5 rfl)
    refine .e rfl (V:=.bool false) (fun H=>x_cm (H.g 12 9) (H.c _) c5) ?_ (hg:=gq 5 rfl)
    refine .e rfl (fun H=>x_pkT (H.g 8 5) (H.g 13 10)) ?_
    refine .mv rfl 11 ?_
    refine .fz rfl 1 2 E1_0 ?_ (hg:=gq 12 rfl)
    refine .fj rfl 13 3 ?_ (hg:=gq 12 rfl)
    refine .lc rfl 14 B2 ?_ (V:=.string r.b.s) (hg:=gq 12 rfl)
    refine .e rfl (V:=.int .i64 ((r.b.s.size:Nat):Int)) (fun H=>by have e18:=H.g 18 15; clear H; go_simp) ?_ (hg:=gq 12 rfl)
    refine .e rfl (V:=.bool true) (fun H=>x_cm (H.g 19 16) (H.c _) c6) ?_ (hg:=gq 12 rfl)
    refine .mv rfl 17 ?_ (hg:=gq 12 rfl)
    refine .fz rfl 1 2 E1_0 ?_ (hg:=gq 18 rfl)
    refine .fj rfl 19 3 ?_ (hg:=gq 18 rfl)
    refine .lc rfl 20 B2 ?_ (V:=.string r.b.s) (hg:=gq 18 rfl)
    refine .e rfl (V:=.int .i64 ((r.b.s.size:Nat):Int)) (fun H=>by have e24:=H.g 24 21; clear H; go_simp) ?_ (hg:=gq 18 rfl)
    refine .e rfl (V:=.bool (decide (((r.b.s.size:Nat):Int) ≤ 1024))) (fun H=>x_cmp (H.g 25 22) (H.c _)) ?_ (hg:=gq 18 rfl)
    refine .e rfl (fun H=>x_pkT (H.g 21 18) (H.g 26 23)) ?_ (hg:=gq 12 rfl)
    refine .e rfl (fun H=>x_pkF (H.g 15 12) (H.g 27 24)) ?_
    refine .mv rfl 25 ?_
    refine .dk (fun u=>rfV r::u1 0::u 26::sq u 0 26 []) K3 bel fun u2 w2 D bel=>?_
    have E2_26:=D.q 26
    clear D
    exact wp_ret (rt rfl E2_26 (lg_2 c4 c5 c6) bel)
   ·
    have dc6:=of_decide_eq_false c6
    refine gs 27 (Amb Z0 W) fun _ K3=>?_
    refine .fz rfl 1 0 E1_0 ?_
    refine .fj rfl 0 1 ?_
    refine .lc rfl 1 B2 ?_ (V:=.string r.a.s)
    refine .e rfl (V:=.int .i64 ((r.a.s.size:Nat):Int)) (fun H=>by have e5:=H.g 5 2; clear H; go_simp) ?_
    refine .e rfl (V:=.bool true) (fun H=>x_cm (H.g 6 3) (H.c _) c4) ?_
    refine .mv rfl 4 ?_
    refine .fz rfl 1 0 E1_0 ?_ (hg:=gq 5 rfl)
    refine .fj rfl 6 1 ?_ (hg:=gq 5 rfl)
    refine .lc rfl 7 B2 ?_ (V:=.string r.a.s) (hg:=gq 5 rfl)
    refine .e rfl (V:=.int .i64 ((r.a.s.size:Nat):Int)) (fun H=>by have e11:=H.g 11 8; clear H; go_simp) ?_ (hg:=gq 5 rfl)
    refine .e rfl (V:=.bool false) (fun H=>x_cm (H.g 12 9) (H.c _) c5) ?_ (hg:=gq 5 rfl)
    refine .e rfl (fun H=>x_pkT (H.g 8 5) (H.g 13 10)) ?_
    refine .mv rfl 11 ?_
    refine .fz rfl 1 2 E1_0 ?_ (hg:=gq 12 rfl)
    refine .fj rfl 13 3 ?_ (hg:=gq 12 rfl)
    refine .lc rfl 14 B2 ?_ (V:=.string r.b.s) (hg:=gq 12 rfl)
    refine .e rfl (V:=.int .i64 ((r.b.s.size:Nat):Int)) (fun H=>by have e18:=H.g 18 15; clear H; go_simp) ?_ (hg:=gq 12 rfl)
    refine .e rfl (V:=.bool false) (fun H=>x_cm (H.g 19 16) (H.c _) c6) ?_ (hg:=gq 12 rfl)
    refine .mv rfl 17 ?_ (hg:=gq 12 rfl)
    refine .sk rfl 18 ?_
    refine .sk rfl 18 ?_
    refine .sk rfl 18 ?_
    refine .sk rfl 18 ?_
    refine .sk rfl 18 ?_
    refine .e rfl (fun H=>x_pkF (H.g 21 18) (H.c _)) ?_ (hg:=gq 12 rfl)
    refine .e rfl (fun H=>x_pkF (H.g 15 12) (H.g 27 24)) ?_
    refine .mv rfl 25 ?_
    refine .dk (fun u=>rfV r::u1 0::u 26::sq u 0 26 []) K3 bel fun u2 w2 D bel=>?_
    have E2_26:=D.q 26
    clear D
    exact wp_ret (rt rfl E2_26 (lg_3 c4 c5 c6) bel)
 ·
  have dc4:=of_decide_eq_false c4
  rcases Bool.eq_false_or_eq_true (decide (80 < ((r.b.s.size:Nat):Int))) with c7 | c7
  ·
   have dc7:=of_decide_eq_true c7
   refine gs 27 (Amb Z0 W) fun _ K3=>?_
   refine .fz rfl 1 0 E1_0 ?_
   refine .fj rfl 0 1 ?_
   refine .lc rfl 1 B2 ?_ (V:=.string r.a.s)
   refine .e rfl (V:=.int .i64 ((r.a.s.size:Nat):Int)) (fun H=>by have e5:=H.g 5 2; clear H; go_simp) ?_
   refine .e rfl (V:=.bool false) (fun H=>x_cm (H.g 6 3) (H.c _) c4) ?_
   refine .mv rfl 4 ?_
   refine .sk rfl 5 ?_
   refine .sk rfl 5 ?_
   refine .sk rfl 5 ?_
   refine .sk rfl 5 ?_
   refine .sk rfl 5 ?_
   refine .e rfl (fun H=>x_pkF (H.g 8 5) (H.c _)) ?_
   refine .mv rfl 11 ?_
   refine .fz rfl 1 2 E1_0 ?_ (hg:=gq 12 rfl)
   refine .fj rfl 13 3 ?_ (hg:=gq 12 rfl)
   refine .lc rfl 14 B2 ?_ (V:=.string r.b.s) (hg:=gq 12 rfl)
   refine .e rfl (V:=.int .i64 ((r.b.s.size:Nat):Int)) (fun H=>by have e18:=H.g 18 15; clear H; go_simp) ?_ (hg:=gq 12 rfl)
   refine .e rfl (V:=.bool true) (fun H=>x_cm (H.g 19 16) (H.c _) c7) ?_ (hg:=gq 12 rfl)
   refine .mv rfl 17 ?_ (hg:=gq 12 rfl)
   refine .fz rfl 1 2 E1_0 ?_ (hg:=gq 18 rfl)
   refine .fj rfl 19 3 ?_ (hg:=gq 18 rfl)
   refine .lc rfl 20 B2 ?_ (V:=.string r.b.s) (hg:=gq 18 rfl)
   refine .e rfl (V:=.int .i64 ((r.b.s.size:Nat):Int)) (fun H=>by have e24:=H.g 24 21; clear H; go_simp) ?_ (hg:=gq 18 rfl)
   refine .e rfl (V:=.bool (decide (((r.b.s.size:Nat):Int) ≤ 1024))) (fun H=>x_cmp (H.g 25 22) (H.c _)) ?_ (hg:=gq 18 rfl)
   refine .e rfl (fun H=>x_pkT (H.g 21 18) (H.g 26 23)) ?_ (hg:=gq 12 rfl)
   refine .e rfl (fun H=>x_pkF (H.g 15 12) (H.g 27 24)) ?_
   refine .mv rfl 25 ?_
   refine .dk (fun u=>rfV r::u1 0::u 26::sq u 0 26 []) K3 bel fun u2 w2 D bel=>?_
   have E2_26:=D.q 26
   clear D
   exact wp_ret (rt rfl E2_26 (lg_4 c4 c7) bel)
  ·
   have dc7:=of_decide_eq_false c7
   refine gs 27 (Amb Z0 W) fun _ K3=>?_
   refine .fz rfl 1 0 E1_0 ?_
   refine .fj rfl 0 1 ?_
   refine .lc rfl 1 B2 ?_ (V:=.string r.a.s)
   refine .e rfl (V:=.int .i64 ((r.a.s.size:Nat):Int)) (fun H=>by have e5:=H.g 5 2; clear H; go_simp) ?_
   refine .e rfl (V:=.bool false) (fun H=>x_cm (H.g 6 3) (H.c _) c4) ?_
   refine .mv rfl 4 ?_
   refine .sk rfl 5 ?_
   refine .sk rfl 5 ?_
   refine .sk rfl 5 ?_
   refine .sk rfl 5 ?_
   refine .sk rfl 5 ?_
   refine .e rfl (fun H=>x_pkF (H.g 8 5) (H.c _)) ?_
   refine .mv rfl 11 ?_
   refine .fz rfl 1 2 E1_0 ?_ (hg:=gq 12 rfl)
   refine .fj rfl 13 3 ?_ (hg:=gq 12 rfl)
   refine .lc rfl 14 B2 ?_ (V:=.string r.b.s) (hg:=gq 12 rfl)
   refine .e rfl (V:=.int .i64 ((r.b.s.size:Nat):Int)) (fun H=>by have e18:=H.g 18 15; clear H; go_simp) ?_ (hg:=gq 12 rfl)
   refine .e rfl (V:=.bool false) (fun H=>x_cm (H.g 19 16) (H.c _) c7) ?_ (hg:=gq 12 rfl)
   refine .mv rfl 17 ?_ (hg:=gq 12 rfl)
   refine .sk rfl 18 ?_
   refine .sk rfl 18 ?_
   refine .sk rfl 18 ?_
   refine .sk rfl 18 ?_
   refine .sk rfl 18 ?_
   refine .e rfl (fun H=>x_pkF (H.g 21 18) (H.c _)) ?_ (hg:=gq 12 rfl)
   refine .e rfl (fun H=>x_pkF (H.g 15 12) (H.g 27 24)) ?_
   refine .mv rfl 25 ?_
   refine .dk (fun u=>rfV r::u1 0::u 26::sq u 0 26 []) K3 bel fun u2 w2 D bel=>?_
   have E2_26:=D.q 26
   clear D
   exact wp_ret (rt rfl E2_26 (lg_5 c4 c7) bel)
end Go.Proofs.YtcpjdjnaipbieaaGreat
namespace Go.Proofs.YtcpjdjnaipbieaaGreat
open Go.RowKit Rgn Eng
set_option maxHeartbeats 8000000
set_option maxRecDepth 100000
variable {S:Nat → Prop} {W:World}
theorem iOver {v0:Value} (c:Ci) (t0:(RingP c).p S v0 W) (p0:ht c.a + ht c.b.re + ht c.b.im + ht c.c ≤ 1073741824):Calls Tryz.prog 143 #[v0] W (Ret (MatP c.over) S W):=by
 have h1:=hc_conj c.b
 refine Run.goP (S:=S) (Pack.nil.s spRing t0) Tryz.func143 rfl ?_
 refine Run.dr ?_
 refine RunD.cR spNum (fun _ _ _ H=>eConj c.b (NumP.mk (H.f 1) (H.f 2)) (by first | omega | (dsimp only at *; omega))) ?_
 refine RunD.cR spNum (fun _ _ _ H=>eNeg c.b.conj (NumP.mk (H.f 4) (H.f 5)) (by first | omega | (dsimp only at *; omega))) ?_
 refine RunD.cO 2 softRat (fun _ _ _ H=>qNeg c.c (RatP.blk (H.oz 2)) (anyV (H.f 3)) (by first | omega | (dsimp only at *; omega))) ?_
 refine RunD.cRs [2] spNum (fun _ _ _ H=>eReal (-c.c) (H.s 2)) ?_
 refine RunD.cR spNum (fun _ _ _ H=>eReal c.a (H.f 0)) ?_
 refine RunD.en ?_
 exact Run.rR (fun _ _ _ H=>MatP.mk (H.f 6) (H.f 7) (H.f 9) (H.f 10) (H.f 11) (H.f 12) (H.f 1) (H.f 2))
theorem plTold {v0:Value} (p:Pn) (t0:(PlaceP p).p S v0 W) (p0:ht p.z.re + ht p.z.im ≤ 1073741824):Calls Tryz.prog 158 #[v0] W (RetV (.tuple #[rpnV (pncut p),.int .i64 (pnerr p)]) W):=by
 refine Run.goP (S:=S) (Pack.nil.s spPlace t0) Tryz.func158 rfl ?_
 refine (Bool.eq_false_or_eq_true (p.inf)).elim (fun c1=>?_) (fun c1=>?_)
 · refine Run.kn c1 ?_
   exact Run.rV (pcut_inf c1)
 · refine Run.kn c1 ?_
   refine Run.cV ((rgC (gcut p.z)).toList ++ [.int .i64 (gerr p.z)]) (.tup [.agg (ks 0 8),.o (.k 8)]) (fun _ _ _ H=>eTold p.z (NumP.mk (H.f 0) (H.f 1)) (by first | omega | (dsimp only at *; omega))) ?_
   exact Run.rV (pcut_num c1)
theorem ivIs (m:Mb) (p0:mbOk (rmb m) = true) :
  Calls Tryz.prog 25 #[mbV m] W (RetV (.tuple #[.agg #[.bool m.isR.a.a.n,.string m.isR.a.a.s,.bool m.isR.a.b.n,.string m.isR.a.b.s,.bool m.isR.b.re.a.n,.string m.isR.b.re.a.s,.bool m.isR.b.re.b.n,.string m.isR.b.re.b.s,.bool m.isR.b.im.a.n,.string m.isR.b.im.a.s,.bool m.isR.b.im.b.n,.string m.isR.b.im.b.s,.bool m.isR.c.a.n,.string m.isR.c.a.s,.bool m.isR.c.b.n,.string m.isR.c.b.s],.int .i64 m.isE]) W):=by
 have f:=mbfits_ht (mbOk_c p0).1
 have o1:ht (Cx.ofInt (1:Int) (0:Int)).re = 2:=by decide
 have o2:ht (Cx.ofInt (1:Int) (0:Int)).im = 2:=by decide
 have o3:ht (Cx.ofInt (0:Int) (1:Int)).re = 2:=by decide
 have o4:ht (Cx.ofInt (0:Int) (1:Int)).im = 2:=by decide
 have o5:ht (Rat.divInt (1:Int) (1:Int)) = 2:=by decide
 have o6:=ht_zero
 have k1:=hc_conj m.a
 have k2:=hc_sub (Cx.ofInt (1:Int) (0:Int)) m.a.conj
 have k30:=hc_mul m.b (Cx.ofInt (1:Int) (0:Int))
 have k40:=hc_neg (m.b.mul (Cx.ofInt (1:Int) (0:Int)))
 have k31:=hc_mul m.b ((Cx.ofInt (1:Int) (0:Int)).sub m.a.conj)
 have k41:=hc_neg (m.b.mul ((Cx.ofInt (1:Int) (0:Int)).sub m.a.conj))
 have k32:=hc_mul m.b (Cx.ofInt (0:Int) (1:Int))
 have k42:=hc_neg (m.b.mul (Cx.ofInt (0:Int) (1:Int)))
 refine Run.goP (S:=Z0) (Pack.nil.k (mbV m) (mbC m).toList (.s (.agg (ks 0 33)))) Tryz.func25 rfl ?_
 refine Run.cR spMatK (fun β ℓ w H=>eOpenO m p0) ?_
 refine Run.kn (b:=true) rfl ?_
 refine Run.dr ?_
 refine RunD.cR spRat (fun β ℓ w H=>qNewRat 1 1 (by decide) (by decide) (by decide) (by decide) (by decide)) ?_
 refine RunD.en ?_
 refine Run.cR spNum (fun β ℓ w H=>eInt 1 0 (by decide) (by decide) (by decide) (by decide)) ?_
 refine Run.cV [.bool m.c.zero] kb (fun β ℓ w H=>eZero m.c (NumP.mk (H.f 4) (H.f 5))) ?_
 rcases Bool.eq_false_or_eq_true m.c.zero with c1 | c1
 · refine Run.kn c1 ?_
   refine Run.dr ?_
   refine RunD.cR spNum (fun β ℓ w H=>eInt 1 0 (by decide) (by decide) (by decide) (by decide)) ?_
   refine RunD.cR spNum (fun β ℓ w H=>eConj m.a (NumP.mk (H.f 0) (H.f 1)) (by first | omega | (dsimp only at *; omega))) ?_
   refine RunD.cR spNum (fun β ℓ w H=>eSub (Cx.ofInt (1:Int) (0:Int)) m.a.conj (NumP.mk (H.f 11) (H.f 12)) (NumP.mk (H.f 13) (H.f 14)) (by first | omega | (dsimp only at *; omega))) ?_
   refine RunD.en ?_
   refine Run.cV [.bool ((Cx.ofInt (1:Int) (0:Int)).sub m.a.conj).zero] kb (fun β ℓ w H=>eZero ((Cx.ofInt (1:Int) (0:Int)).sub m.a.conj) (NumP.mk (H.f 15) (H.f 16))) ?_
   rcases Bool.eq_false_or_eq_true ((Cx.ofInt (1:Int) (0:Int)).sub m.a.conj).zero with c2 | c2
   · refine Run.kn c2 ?_
     refine Run.cR spNum (fun β ℓ w H=>eInt 0 1 (by decide) (by decide) (by decide) (by decide)) ?_
     refine Run.cR spNum (fun β ℓ w H=>eNMul m.b (Cx.ofInt (0:Int) (1:Int)) (NumP.mk (H.f 2) (H.f 3)) (NumP.mk (H.f 17) (H.f 18)) (by first | omega | (dsimp only at *; omega))) ?_
     refine Run.cR spNum (fun β ℓ w H=>eNeg (m.b.mul (Cx.ofInt (0:Int) (1:Int))) (NumP.mk (H.f 19) (H.f 20)) (by first | omega | (dsimp only at *; omega))) ?_
     refine Run.cR sp2Rat (fun β ℓ w H=>eParts ((m.b.mul (Cx.ofInt (0:Int) (1:Int))).neg) (NumP.mk (H.f 21) (H.f 22))) ?_
     rcases Bool.eq_false_or_eq_true m.t with c3 | c3
     · refine Run.kn c3 ?_
       refine Run.cV [.int .i64 ((m.b.mul (Cx.ofInt (0:Int) (1:Int))).neg).im.num.sign] kb (fun β ℓ w H=>qSign ((m.b.mul (Cx.ofInt (0:Int) (1:Int))).neg).im (H.f 24)) ?_
       refine Run.ic ((m.b.mul (Cx.ofInt (0:Int) (1:Int))).neg).im.num.sign 0 (((m.b.mul (Cx.ofInt (0:Int) (1:Int))).neg).im.num.sign != 0) ?_
       rcases Bool.eq_false_or_eq_true (((m.b.mul (Cx.ofInt (0:Int) (1:Int))).neg).im.num.sign != 0) with c4 | c4
       · refine Run.kn c4 ?_
         exact Run.rV (is_n (ok_i (is_w2 c1 c2) c4))
       refine Run.kn c4 ?_
       refine Run.se 5 ?_
       refine Run.cR spRat (fun β ℓ w H=>rgPow (Ci.mk (0:Rat) (Cx.ofInt (0:Int) (1:Int)) ((m.b.mul (Cx.ofInt (0:Int) (1:Int))).neg).re) (RingP.mk (H.rz 5) (H.f 17) (H.f 18) (H.f 23)) (by dsimp only at *; omega)) ?_
       refine Run.cV [.int .i64 (Ci.mk (0:Rat) (Cx.ofInt (0:Int) (1:Int)) ((m.b.mul (Cx.ofInt (0:Int) (1:Int))).neg).re).pow.num.sign] kb (fun β ℓ w H=>qSign (Ci.mk (0:Rat) (Cx.ofInt (0:Int) (1:Int)) ((m.b.mul (Cx.ofInt (0:Int) (1:Int))).neg).re).pow (H.f 25)) ?_
       refine Run.ic (Ci.mk (0:Rat) (Cx.ofInt (0:Int) (1:Int)) ((m.b.mul (Cx.ofInt (0:Int) (1:Int))).neg).re).pow.num.sign 0 (decide ((Ci.mk (0:Rat) (Cx.ofInt (0:Int) (1:Int)) ((m.b.mul (Cx.ofInt (0:Int) (1:Int))).neg).re).pow.num.sign ≤ 0)) ?_
       rcases Bool.eq_false_or_eq_true (decide ((Ci.mk (0:Rat) (Cx.ofInt (0:Int) (1:Int)) ((m.b.mul (Cx.ofInt (0:Int) (1:Int))).neg).re).pow.num.sign ≤ 0)) with c5 | c5
       · refine Run.kn c5 ?_
         exact Run.rV (is_n (ok_p (is_w2 c1 c2) c5))
       refine Run.kn c5 ?_
       refine Run.cV ((rciC (cicut (Ci.mk (0:Rat) (Cx.ofInt (0:Int) (1:Int)) ((m.b.mul (Cx.ofInt (0:Int) (1:Int))).neg).re).nrm)).toList ++ [.int .i64 (cierr (Ci.mk (0:Rat) (Cx.ofInt (0:Int) (1:Int)) ((m.b.mul (Cx.ofInt (0:Int) (1:Int))).neg).re).nrm)]) (.tup [.agg (ks 0 16),.o (.k 16)]) (fun β ℓ w H=>rgTold (Ci.mk (0:Rat) (Cx.ofInt (0:Int) (1:Int)) ((m.b.mul (Cx.ofInt (0:Int) (1:Int))).neg).re) (RingP.mk (H.rz 5) (H.f 17) (H.f 18) (H.f 23)) (by dsimp only at *; omega) (pos_flat (pos_of c5))) ?_
       refine Run.cR spRing (fun β ℓ w H=>rgNorm (Ci.mk (0:Rat) (Cx.ofInt (0:Int) (1:Int)) ((m.b.mul (Cx.ofInt (0:Int) (1:Int))).neg).re) (RingP.mk (H.rz 5) (H.f 17) (H.f 18) (H.f 23)) (by dsimp only at *; omega) (pos_flat (pos_of c5))) ?_
       refine Run.cR spMat (fun β ℓ w H=>iOver (Ci.mk (0:Rat) (Cx.ofInt (0:Int) (1:Int)) ((m.b.mul (Cx.ofInt (0:Int) (1:Int))).neg).re).nrm (RingP.mk (H.f 26) (H.f 27) (H.f 28) (H.f 29)) (Nat.le_trans (nrm_le (by dsimp only at *; omega)) (by decide))) ?_
       refine Run.cV ((rmbC (mbcut (Ci.mk (0:Rat) (Cx.ofInt (0:Int) (1:Int)) ((m.b.mul (Cx.ofInt (0:Int) (1:Int))).neg).re).nrm.over.nrm)).toList ++ [.int .i64 (mberr (Ci.mk (0:Rat) (Cx.ofInt (0:Int) (1:Int)) ((m.b.mul (Cx.ofInt (0:Int) (1:Int))).neg).re).nrm.over.nrm)]) (.tup [.agg (ks 0 33),.o (.k 33)]) (fun β ℓ w H=>mtTold (Ci.mk (0:Rat) (Cx.ofInt (0:Int) (1:Int)) ((m.b.mul (Cx.ofInt (0:Int) (1:Int))).neg).re).nrm.over (MatP.mk (H.f 30) (H.f 31) (H.f 32) (H.f 33) (H.f 34) (H.f 35) (H.f 36) (H.f 37)) (over_le (Nat.le_trans (nrm_le (by dsimp only at *; omega)) (by decide))) (over_piv (pos_nrm (pos_of c5)))) ?_
       refine Run.bi [.bool (!decide (mbcut (Ci.mk (0:Rat) (Cx.ofInt (0:Int) (1:Int)) ((m.b.mul (Cx.ofInt (0:Int) (1:Int))).neg).re).nrm.over.nrm = rmb m))] kb (fun w o ρ x y t' ho hx hy=>ex_neq_mb (r:=mbcut (Ci.mk (0:Rat) (Cx.ofInt (0:Int) (1:Int)) ((m.b.mul (Cx.ofInt (0:Int) (1:Int))).neg).re).nrm.over.nrm) (q:=rmb m) x y ho hx hy rfl) ?_
       rcases Bool.eq_false_or_eq_true (!decide (mbcut (Ci.mk (0:Rat) (Cx.ofInt (0:Int) (1:Int)) ((m.b.mul (Cx.ofInt (0:Int) (1:Int))).neg).re).nrm.over.nrm = rmb m)) with c6 | c6
       · refine Run.kn c6 ?_
         exact Run.rV (is_n (ok_b p0 (is_w2 c1 c2) c6))
       refine Run.kn c6 ?_
       exact Run.rV (is_y (is_w2 c1 c2) (ok_y p0 (is_w2 c1 c2) c3 c4 c5 c6))
     · refine Run.kn c3 ?_
       exact Run.rV (is_n (ok_t c3))
   · refine Run.kn c2 ?_
     refine Run.cR spNum (fun β ℓ w H=>eNMul m.b ((Cx.ofInt (1:Int) (0:Int)).sub m.a.conj) (NumP.mk (H.f 2) (H.f 3)) (NumP.mk (H.f 15) (H.f 16)) (by first | omega | (dsimp only at *; omega))) ?_
     refine Run.cR spNum (fun β ℓ w H=>eNeg (m.b.mul ((Cx.ofInt (1:Int) (0:Int)).sub m.a.conj)) (NumP.mk (H.f 17) (H.f 18)) (by first | omega | (dsimp only at *; omega))) ?_
     refine Run.cR sp2Rat (fun β ℓ w H=>eParts ((m.b.mul ((Cx.ofInt (1:Int) (0:Int)).sub m.a.conj)).neg) (NumP.mk (H.f 19) (H.f 20))) ?_
     rcases Bool.eq_false_or_eq_true m.t with c3 | c3
     · refine Run.kn c3 ?_
       refine Run.cV [.int .i64 ((m.b.mul ((Cx.ofInt (1:Int) (0:Int)).sub m.a.conj)).neg).im.num.sign] kb (fun β ℓ w H=>qSign ((m.b.mul ((Cx.ofInt (1:Int) (0:Int)).sub m.a.conj)).neg).im (H.f 22)) ?_
       refine Run.ic ((m.b.mul ((Cx.ofInt (1:Int) (0:Int)).sub m.a.conj)).neg).im.num.sign 0 (((m.b.mul ((Cx.ofInt (1:Int) (0:Int)).sub m.a.conj)).neg).im.num.sign != 0) ?_
       rcases Bool.eq_false_or_eq_true (((m.b.mul ((Cx.ofInt (1:Int) (0:Int)).sub m.a.conj)).neg).im.num.sign != 0) with c4 | c4
       · refine Run.kn c4 ?_
         exact Run.rV (is_n (ok_i (is_w1 c1 c2) c4))
       refine Run.kn c4 ?_
       refine Run.se 5 ?_
       refine Run.cR spRat (fun β ℓ w H=>rgPow (Ci.mk (0:Rat) ((Cx.ofInt (1:Int) (0:Int)).sub m.a.conj) ((m.b.mul ((Cx.ofInt (1:Int) (0:Int)).sub m.a.conj)).neg).re) (RingP.mk (H.rz 5) (H.f 15) (H.f 16) (H.f 21)) (by dsimp only at *; omega)) ?_
       refine Run.cV [.int .i64 (Ci.mk (0:Rat) ((Cx.ofInt (1:Int) (0:Int)).sub m.a.conj) ((m.b.mul ((Cx.ofInt (1:Int) (0:Int)).sub m.a.conj)).neg).re).pow.num.sign] kb (fun β ℓ w H=>qSign (Ci.mk (0:Rat) ((Cx.ofInt (1:Int) (0:Int)).sub m.a.conj) ((m.b.mul ((Cx.ofInt (1:Int) (0:Int)).sub m.a.conj)).neg).re).pow (H.f 23)) ?_
       refine Run.ic (Ci.mk (0:Rat) ((Cx.ofInt (1:Int) (0:Int)).sub m.a.conj) ((m.b.mul ((Cx.ofInt (1:Int) (0:Int)).sub m.a.conj)).neg).re).pow.num.sign 0 (decide ((Ci.mk (0:Rat) ((Cx.ofInt (1:Int) (0:Int)).sub m.a.conj) ((m.b.mul ((Cx.ofInt (1:Int) (0:Int)).sub m.a.conj)).neg).re).pow.num.sign ≤ 0)) ?_
       rcases Bool.eq_false_or_eq_true (decide ((Ci.mk (0:Rat) ((Cx.ofInt (1:Int) (0:Int)).sub m.a.conj) ((m.b.mul ((Cx.ofInt (1:Int) (0:Int)).sub m.a.conj)).neg).re).pow.num.sign ≤ 0)) with c5 | c5
       · refine Run.kn c5 ?_
         exact Run.rV (is_n (ok_p (is_w1 c1 c2) c5))
       refine Run.kn c5 ?_
       refine Run.cV ((rciC (cicut (Ci.mk (0:Rat) ((Cx.ofInt (1:Int) (0:Int)).sub m.a.conj) ((m.b.mul ((Cx.ofInt (1:Int) (0:Int)).sub m.a.conj)).neg).re).nrm)).toList ++ [.int .i64 (cierr (Ci.mk (0:Rat) ((Cx.ofInt (1:Int) (0:Int)).sub m.a.conj) ((m.b.mul ((Cx.ofInt (1:Int) (0:Int)).sub m.a.conj)).neg).re).nrm)]) (.tup [.agg (ks 0 16),.o (.k 16)]) (fun β ℓ w H=>rgTold (Ci.mk (0:Rat) ((Cx.ofInt (1:Int) (0:Int)).sub m.a.conj) ((m.b.mul ((Cx.ofInt (1:Int) (0:Int)).sub m.a.conj)).neg).re) (RingP.mk (H.rz 5) (H.f 15) (H.f 16) (H.f 21)) (by dsimp only at *; omega) (pos_flat (pos_of c5))) ?_
       refine Run.cR spRing (fun β ℓ w H=>rgNorm (Ci.mk (0:Rat) ((Cx.ofInt (1:Int) (0:Int)).sub m.a.conj) ((m.b.mul ((Cx.ofInt (1:Int) (0:Int)).sub m.a.conj)).neg).re) (RingP.mk (H.rz 5) (H.f 15) (H.f 16) (H.f 21)) (by dsimp only at *; omega) (pos_flat (pos_of c5))) ?_
       refine Run.cR spMat (fun β ℓ w H=>iOver (Ci.mk (0:Rat) ((Cx.ofInt (1:Int) (0:Int)).sub m.a.conj) ((m.b.mul ((Cx.ofInt (1:Int) (0:Int)).sub m.a.conj)).neg).re).nrm (RingP.mk (H.f 24) (H.f 25) (H.f 26) (H.f 27)) (Nat.le_trans (nrm_le (by dsimp only at *; omega)) (by decide))) ?_
       refine Run.cV ((rmbC (mbcut (Ci.mk (0:Rat) ((Cx.ofInt (1:Int) (0:Int)).sub m.a.conj) ((m.b.mul ((Cx.ofInt (1:Int) (0:Int)).sub m.a.conj)).neg).re).nrm.over.nrm)).toList ++ [.int .i64 (mberr (Ci.mk (0:Rat) ((Cx.ofInt (1:Int) (0:Int)).sub m.a.conj) ((m.b.mul ((Cx.ofInt (1:Int) (0:Int)).sub m.a.conj)).neg).re).nrm.over.nrm)]) (.tup [.agg (ks 0 33),.o (.k 33)]) (fun β ℓ w H=>mtTold (Ci.mk (0:Rat) ((Cx.ofInt (1:Int) (0:Int)).sub m.a.conj) ((m.b.mul ((Cx.ofInt (1:Int) (0:Int)).sub m.a.conj)).neg).re).nrm.over (MatP.mk (H.f 28) (H.f 29) (H.f 30) (H.f 31) (H.f 32) (H.f 33) (H.f 34) (H.f 35)) (over_le (Nat.le_trans (nrm_le (by dsimp only at *; omega)) (by decide))) (over_piv (pos_nrm (pos_of c5)))) ?_
       refine Run.bi [.bool (!decide (mbcut (Ci.mk (0:Rat) ((Cx.ofInt (1:Int) (0:Int)).sub m.a.conj) ((m.b.mul ((Cx.ofInt (1:Int) (0:Int)).sub m.a.conj)).neg).re).nrm.over.nrm = rmb m))] kb (fun w o ρ x y t' ho hx hy=>ex_neq_mb (r:=mbcut (Ci.mk (0:Rat) ((Cx.ofInt (1:Int) (0:Int)).sub m.a.conj) ((m.b.mul ((Cx.ofInt (1:Int) (0:Int)).sub m.a.conj)).neg).re).nrm.over.nrm) (q:=rmb m) x y ho hx hy rfl) ?_
       rcases Bool.eq_false_or_eq_true (!decide (mbcut (Ci.mk (0:Rat) ((Cx.ofInt (1:Int) (0:Int)).sub m.a.conj) ((m.b.mul ((Cx.ofInt (1:Int) (0:Int)).sub m.a.conj)).neg).re).nrm.over.nrm = rmb m)) with c6 | c6
       · refine Run.kn c6 ?_
         exact Run.rV (is_n (ok_b p0 (is_w1 c1 c2) c6))
       refine Run.kn c6 ?_
       exact Run.rV (is_y (is_w1 c1 c2) (ok_y p0 (is_w1 c1 c2) c3 c4 c5 c6))
     · refine Run.kn c3 ?_
       exact Run.rV (is_n (ok_t c3))
 · refine Run.kn c1 ?_
   refine Run.cR spNum (fun β ℓ w H=>eNMul m.b (Cx.ofInt (1:Int) (0:Int)) (NumP.mk (H.f 2) (H.f 3)) (NumP.mk (H.f 9) (H.f 10)) (by first | omega | (dsimp only at *; omega))) ?_
   refine Run.cR spNum (fun β ℓ w H=>eNeg (m.b.mul (Cx.ofInt (1:Int) (0:Int))) (NumP.mk (H.f 11) (H.f 12)) (by first | omega | (dsimp only at *; omega))) ?_
   refine Run.cR sp2Rat (fun β ℓ w H=>eParts ((m.b.mul (Cx.ofInt (1:Int) (0:Int))).neg) (NumP.mk (H.f 13) (H.f 14))) ?_
   rcases Bool.eq_false_or_eq_true m.t with c3 | c3
   · refine Run.kn c3 ?_
     refine Run.cV [.int .i64 ((m.b.mul (Cx.ofInt (1:Int) (0:Int))).neg).im.num.sign] kb (fun β ℓ w H=>qSign ((m.b.mul (Cx.ofInt (1:Int) (0:Int))).neg).im (H.f 16)) ?_
     refine Run.ic ((m.b.mul (Cx.ofInt (1:Int) (0:Int))).neg).im.num.sign 0 (((m.b.mul (Cx.ofInt (1:Int) (0:Int))).neg).im.num.sign != 0) ?_
     rcases Bool.eq_false_or_eq_true (((m.b.mul (Cx.ofInt (1:Int) (0:Int))).neg).im.num.sign != 0) with c4 | c4
     · refine Run.kn c4 ?_
       exact Run.rV (is_n (ok_i (is_w0 c1) c4))
     refine Run.kn c4 ?_
     refine Run.cR spRat (fun β ℓ w H=>rgPow (Ci.mk (Rat.divInt (1:Int) (1:Int)) m.d ((m.b.mul (Cx.ofInt (1:Int) (0:Int))).neg).re) (RingP.mk (H.f 8) (H.f 6) (H.f 7) (H.f 15)) (by dsimp only at *; omega)) ?_
     refine Run.cV [.int .i64 (Ci.mk (Rat.divInt (1:Int) (1:Int)) m.d ((m.b.mul (Cx.ofInt (1:Int) (0:Int))).neg).re).pow.num.sign] kb (fun β ℓ w H=>qSign (Ci.mk (Rat.divInt (1:Int) (1:Int)) m.d ((m.b.mul (Cx.ofInt (1:Int) (0:Int))).neg).re).pow (H.f 17)) ?_
     refine Run.ic (Ci.mk (Rat.divInt (1:Int) (1:Int)) m.d ((m.b.mul (Cx.ofInt (1:Int) (0:Int))).neg).re).pow.num.sign 0 (decide ((Ci.mk (Rat.divInt (1:Int) (1:Int)) m.d ((m.b.mul (Cx.ofInt (1:Int) (0:Int))).neg).re).pow.num.sign ≤ 0)) ?_
     rcases Bool.eq_false_or_eq_true (decide ((Ci.mk (Rat.divInt (1:Int) (1:Int)) m.d ((m.b.mul (Cx.ofInt (1:Int) (0:Int))).neg).re).pow.num.sign ≤ 0)) with c5 | c5
     · refine Run.kn c5 ?_
       exact Run.rV (is_n (ok_p (is_w0 c1) c5))
     refine Run.kn c5 ?_
     refine Run.cV ((rciC (cicut (Ci.mk (Rat.divInt (1:Int) (1:Int)) m.d ((m.b.mul (Cx.ofInt (1:Int) (0:Int))).neg).re).nrm)).toList ++ [.int .i64 (cierr (Ci.mk (Rat.divInt (1:Int) (1:Int)) m.d ((m.b.mul (Cx.ofInt (1:Int) (0:Int))).neg).re).nrm)]) (.tup [.agg (ks 0 16),.o (.k 16)]) (fun β ℓ w H=>rgTold (Ci.mk (Rat.divInt (1:Int) (1:Int)) m.d ((m.b.mul (Cx.ofInt (1:Int) (0:Int))).neg).re) (RingP.mk (H.f 8) (H.f 6) (H.f 7) (H.f 15)) (by dsimp only at *; omega) (pos_flat (pos_of c5))) ?_
     refine Run.cR spRing (fun β ℓ w H=>rgNorm (Ci.mk (Rat.divInt (1:Int) (1:Int)) m.d ((m.b.mul (Cx.ofInt (1:Int) (0:Int))).neg).re) (RingP.mk (H.f 8) (H.f 6) (H.f 7) (H.f 15)) (by dsimp only at *; omega) (pos_flat (pos_of c5))) ?_
     refine Run.cR spMat (fun β ℓ w H=>iOver (Ci.mk (Rat.divInt (1:Int) (1:Int)) m.d ((m.b.mul (Cx.ofInt (1:Int) (0:Int))).neg).re).nrm (RingP.mk (H.f 18) (H.f 19) (H.f 20) (H.f 21)) (Nat.le_trans (nrm_le (by dsimp only at *; omega)) (by decide))) ?_
     refine Run.cV ((rmbC (mbcut (Ci.mk (Rat.divInt (1:Int) (1:Int)) m.d ((m.b.mul (Cx.ofInt (1:Int) (0:Int))).neg).re).nrm.over.nrm)).toList ++ [.int .i64 (mberr (Ci.mk (Rat.divInt (1:Int) (1:Int)) m.d ((m.b.mul (Cx.ofInt (1:Int) (0:Int))).neg).re).nrm.over.nrm)]) (.tup [.agg (ks 0 33),.o (.k 33)]) (fun β ℓ w H=>mtTold (Ci.mk (Rat.divInt (1:Int) (1:Int)) m.d ((m.b.mul (Cx.ofInt (1:Int) (0:Int))).neg).re).nrm.over (MatP.mk (H.f 22) (H.f 23) (H.f 24) (H.f 25) (H.f 26) (H.f 27) (H.f 28) (H.f 29)) (over_le (Nat.le_trans (nrm_le (by dsimp only at *; omega)) (by decide))) (over_piv (pos_nrm (pos_of c5)))) ?_
     refine Run.bi [.bool (!decide (mbcut (Ci.mk (Rat.divInt (1:Int) (1:Int)) m.d ((m.b.mul (Cx.ofInt (1:Int) (0:Int))).neg).re).nrm.over.nrm = rmb m))] kb (fun w o ρ x y t' ho hx hy=>ex_neq_mb (r:=mbcut (Ci.mk (Rat.divInt (1:Int) (1:Int)) m.d ((m.b.mul (Cx.ofInt (1:Int) (0:Int))).neg).re).nrm.over.nrm) (q:=rmb m) x y ho hx hy rfl) ?_
     rcases Bool.eq_false_or_eq_true (!decide (mbcut (Ci.mk (Rat.divInt (1:Int) (1:Int)) m.d ((m.b.mul (Cx.ofInt (1:Int) (0:Int))).neg).re).nrm.over.nrm = rmb m)) with c6 | c6
     · refine Run.kn c6 ?_
       exact Run.rV (is_n (ok_b p0 (is_w0 c1) c6))
     refine Run.kn c6 ?_
     exact Run.rV (is_y (is_w0 c1) (ok_y p0 (is_w0 c1) c3 c4 c5 c6))
   · refine Run.kn c3 ?_
     exact Run.rV (is_n (ok_t c3))
end Go.Proofs.YtcpjdjnaipbieaaGreat
namespace Go.Proofs.YtcpjdjnaipbieaaGreat
open Go.RowKit Rgn
theorem own_low {n₀ sz k:Nat} {T:TypeId} {w w' : World} {v:Value} {cs:List Value} (h:w.ownsRow n₀ T sz v k cs) (g:RowKit.Below w.heap.size w w'):w'.ownsRow n₀ T sz v k cs:=by
 refine ⟨h.1,?_⟩
 rcases h.2 with h1 | ⟨b,cap,cur,h1,h2,h3,h4⟩
 ·exact .inl h1
 ·exact .inr ⟨b,cap,cur,h1,h2,(g.block b (lt_of h3)).trans h3,h4⟩
theorem own_open {n₀ sz k:Nat} {T:TypeId} {w:World} {v:Value} {cs:List Value} (h:w.ownsRow n₀ T sz v k cs) (hk:k ≠ 0) :
  ∃ b cap cur,v = .slice (some ⟨b,0,none⟩) k cap ∧ n₀ ≤ b ∧ w.heap[b]? = some (.cells cur T (0,0)) ∧ cur.toList.take cs.length = cs:=by
 rcases h.2 with ⟨_,h1⟩ | ⟨b,cap,cur,h1,h2,h3,h4,h5,h6,h7⟩
 ·exact absurd h1 hk
 ·exact ⟨b,cap,cur,h1,h2,h3,by rw [h.1]; exact h7⟩
def AllG:List Ci → List Value → (Nat → Prop) → World → Prop
 | [],[],_,_=>True
 | c :: l,v0 :: v1 :: v2 :: v3 :: vs,S,w=>(RingP c).p S (.agg #[v0,v1,v2,v3]) w ∧ AllG l vs S w
 | _,_,_,_=>False
def RetRow (T:TypeId) (n:Nat) (r:Value) (l:List Ci) (S:Nat → Prop) (W:World) (e:Ending) (w' : World):Prop :=
 ∃ b cap cur vs,e = .returned (.tuple #[.slice (some ⟨b,0,none⟩) n cap,r]) ∧ W.heap.size ≤ b ∧ w'.heap[b]? = some (.cells cur T (0,0)) ∧ cur.toList.take vs.length = vs ∧ AllG l vs (fun k=>S k ∨ W.heap.size ≤ k) w' ∧ RowKit.Below W.heap.size W w'
theorem AllG.cons {c:Ci} {l:List Ci} {vs:List Value} {S:Nat → Prop} {w:World} (h:AllG (c :: l) vs S w):∃ (b0:Nat) (v1 v2:Value) (b3:Nat) (vs' : List Value),vs = pt b0 :: v1 :: v2 :: pt b3 :: vs' ∧ S b0 ∧ S b3 ∧ (RatP c.a).p (· = b0) (pt b0) w ∧ (RatN c.b.re).p S v1 w ∧ (RatN c.b.im).p S v2 w ∧ (RatP c.c).p (· = b3) (pt b3) w ∧ AllG l vs' S w:=by
 match vs,h with
 | v0 :: v1 :: v2 :: v3 :: vs,⟨h1,h2⟩ =>
  obtain ⟨b0,y1,y2,b3,e,k1,k2,m0,m1,m2,m3⟩:=RingP.elim h1
  simp only [Value.agg.injEq,Array.mk.injEq,List.cons.injEq,and_true] at e
  obtain ⟨rfl,rfl,rfl,rfl⟩:=e
  exact ⟨b0,v1,v2,b3,vs,rfl,k1,k2,m0,m1,m2,m3,h2⟩
theorem AllG.nil {vs:List Value} {S:Nat → Prop} {w:World} (h:AllG [] vs S w):vs = []:=by
 match vs,h with
 | [],_=>rfl
section
variable {P:Program} {ops:Array Oper} {Q:Exit → Act → World → Prop} {o:Oper} {rest:List Oper} {a:Act} {w:World}
theorem wpT_apR {T TS:TypeId} {n₀ k b:Nat} {s x:Operand} {v v0 v1 v2 v3:Value} {cs:List Value} (bt:Nat) (hg:o.guard = none) (ho:o.op = .call { callee:=.builtin .append,args:=#[s,x],argTypes:=#[TS,TS] }) (hs:a.eval s = v) (hx:a.eval x = .slice (some ⟨b,0,none⟩) 1 1)
  (O:w.ownsRow n₀ T 4 v k cs) (hB:w.heap[b]? = some (.cells #[v0,v1,v2,v3] T (0,0))) (h0:v0.oneCell' = true) (h1:v1.oneCell' = true) (h2:v2.oneCell' = true) (h3:v3.oneCell' = true) (hn:n₀ ≤ w.heap.size) (hk:k ≤ 100000)
  (hu:sliceE P TS = some T) (hi:(P.info? T).map (fun i=>(i.zero.map (·.cells.size),i.size,i.bytes)) = some (some 4,4,bt)) (hb:bt ≤ 100000) (hL:Rgn.Loc T = true)
  (h:∀ v' w', w'.ownsRow n₀ T 4 v' (k + 1) (cs ++ [v0,v1,v2,v3]) → RowKit.Below n₀ w w' → (∀ S,GrowS S w w') → wpList P ops Q rest (a.put o.dst v') w'):wpList P ops Q (o :: rest) a w:=by
 cases hie:P.info? T with
 | none=>rw [hie] at hi; cases hi
 | some i =>
  rw [hie] at hi
  simp only [Option.map_some,Option.some.injEq,Prod.mk.injEq] at hi
  obtain ⟨hz,hsz,hby⟩:=hi
  cases hzz:i.zero with
  | none=>rw [hzz] at hz; cases hz
  | some z =>
   have hzs:z.cells.size = 4:=by rw [hzz] at hz; exact Option.some.inj hz
   have hnews:∀ j u,[v0,v1,v2,v3][j]? = some u → w.cell? ((⟨b,0,none⟩:Addr).add j) = some u:=by
    intro j u hj
    rw [Addr.add_lit]
    simpa [World.cell?,hB] using hj
   have hone:∀ u ∈ [v0,v1,v2,v3],u.oneCell' = true:=by
    intro u hu
    simp only [List.mem_cons,List.not_mem_nil,or_false] at hu
    rcases hu with rfl | rfl | rfl | rfl <;> assumption
   obtain ⟨v', w', hrun,hown,r2,_⟩:=run_append_own (P:=P) w n₀ TS o.type T i z 4 bt (sliceE_ex hu) hie hzz hsz hby hzs (by decide) v k cs O ⟨b,0,none⟩ 1 1 [v0,v1,v2,v3] rfl hnews hone (by simp only [maxLen]; omega)
    (Nat.le_trans (Nat.mul_le_mul (show k + 1 ≤ 100001 by omega) hb) (by decide)) hn
   refine wpList_plain hg fun K hK=>?_
   simp only [Oper.wp,ex_append ho hs hx hrun,Oper.upon]
   refine hK _ _ (h v' w' hown ⟨r2.os,r2.tape,r2.output,r2.size,fun q hq=>r2.block q (Nat.lt_of_lt_of_le hq hn) (fun e=>?_)⟩ (fun S=>⟨r2.os,r2.tape,r2.output,r2.size,fun q hq=>?_⟩))
   ·have:=O.lt q e.symm; omega
   ·by_cases e:some q = v.ownBlock
    ·rcases O.2 with ⟨h4,_⟩ | ⟨b', cap,cur,h4,h5,h6,_⟩
     ·rw [h4] at e; simp [Value.ownBlock] at e
     ·rw [h4] at e
      have e:q = b' := by simpa [Value.ownBlock] using e
      subst e
      exact .inr (.inl ⟨_,_,_,h6,hL⟩)
    ·exact .inl (r2.block q hq e)
theorem wpT_row {f:FuncId} {args:Array Value} {T:TypeId} {n:Nat} {r:Value} {l:List Ci} {S:Nat → Prop} (hg:o.guard = none) (hr:(execOp a.eval o).run P w = .ok (.enter f args) w) (hc:Calls P f args w (RetRow T n r l S w))
  (h:∀ b cap cur vs w', w.heap.size ≤ b → w'.heap[b]? = some (.cells cur T (0,0)) → cur.toList.take vs.length = vs → AllG l vs (fun k=>S k ∨ w.heap.size ≤ k) w' → RowKit.Below w.heap.size w w' → wpList P ops Q rest (a.put o.dst (.tuple #[.slice (some ⟨b,0,none⟩) n cap,r])) w'):wpList P ops Q (o :: rest) a w:=by
 refine wpList_plain hg fun K hK=>?_
 simp only [Oper.wp,hr,Oper.upon]
 refine hc.mono fun e w' ⟨b,cap,cur,vs,he,h1,h2,h3,h4,h5⟩=>?_
 subst he
 exact hK _ _ (h b cap cur vs w' h1 h2 h3 h4 h5)
end
theorem x_ldq {P:Program} {ρ:Operand → Value} {o:Oper} {w:World} {x:Operand} {ty t:TypeId} {g off:Nat} {cur:Array Value} {vs us:List Value} {fr:Nat × Nat} (hx:ρ x = .pointer (some ⟨g,off,none⟩)) (hB:w.heap[g]? = some (.cells cur t fr)) (hQ:cur.toList.take vs.length = vs)
  (ho:o.op = .load ty x:=by rfl) (hd:aggB P ty = true:=by kernel_rfl) (hi:(P.info? ty).map (·.size) = some us.length:=by kernel_rfl) (hv:(vs.drop off).take us.length = us:=by rfl) (hn:(off + us.length).ble vs.length = true:=by rfl):(execOp ρ o).run P w = .ok (.value (.agg us.toArray)) w:=by
 obtain ⟨d,h1,h2⟩:=aggB_ex hd
 have hn:=Nat.le_of_ble_eq_true hn
 have hl:vs.length ≤ cur.size:=by
  have:=congrArg List.length hQ
  rw [List.length_take] at this
  simp at this; omega
 refine ex_load_part ty _ ho hx hB h1 (by cases d <;> first | rfl | cases h2) us.length hi (by omega) ?_
 apply Array.ext_getElem?
 intro k
 rw [Array.getElem?_extract]
 by_cases hk:k < us.length
 ·rw [if_pos (by omega)]
  have e1:us[k]? = vs[off + k]?:=by
   rw [← hv,List.getElem?_take_of_lt hk,List.getElem?_drop]
  have e2:vs[off + k]? = cur.toList[off + k]?:=by
   have h3:(cur.toList.take vs.length)[off + k]? = cur.toList[off + k]?:=List.getElem?_take_of_lt (by omega)
   rw [hQ] at h3
   exact h3
  simp [e1,e2]
 ·rw [if_neg (by omega)]
  simp; omega
end Go.Proofs.YtcpjdjnaipbieaaGreat
namespace Go.Proofs.YtcpjdjnaipbieaaGreat
open Go.RowKit Rgn
set_option maxHeartbeats 4000000
set_option maxRecDepth 100000
variable {S:Nat → Prop} {W:World}
theorem ivWhY {b1:Nat} (x:Ci) (y:Ci) (B1:W.heap[b1]? = some (.cells #[.bool (decide (x.a.num < 0)),.string (bS x.a.num.natAbs),.bool (decide ((x.a.den:Int) < 0)),.string (bS (x.a.den:Int).natAbs),.bool (decide (x.b.re.num < 0)),.string (bS x.b.re.num.natAbs),.bool (decide ((x.b.re.den:Int) < 0)),.string (bS (x.b.re.den:Int).natAbs),.bool (decide (x.b.im.num < 0)),.string (bS x.b.im.num.natAbs),.bool (decide ((x.b.im.den:Int) < 0)),.string (bS (x.b.im.den:Int).natAbs),.bool (decide (x.c.num < 0)),.string (bS x.c.num.natAbs),.bool (decide ((x.c.den:Int) < 0)),.string (bS (x.c.den:Int).natAbs),.bool (decide (y.a.num < 0)),.string (bS y.a.num.natAbs),.bool (decide ((y.a.den:Int) < 0)),.string (bS (y.a.den:Int).natAbs),.bool (decide (y.b.re.num < 0)),.string (bS y.b.re.num.natAbs),.bool (decide ((y.b.re.den:Int) < 0)),.string (bS (y.b.re.den:Int).natAbs),.bool (decide (y.b.im.num < 0)),.string (bS y.b.im.num.natAbs),.bool (decide ((y.b.im.den:Int) < 0)),.string (bS (y.b.im.den:Int).natAbs),.bool (decide (y.c.num < 0)),.string (bS y.c.num.natAbs),.bool (decide ((y.c.den:Int) < 0)),.string (bS (y.c.den:Int).natAbs)] 47 (0,0))) (p0:ciOk (rci x) = true) (p1:ciOk (rci y) = true) :
  Calls Tryz.prog 160 #[.slice (some ⟨b1,0,none⟩) 2 2] W (RetRow 203 2 (.int .i64 0) [x,y] S W):=by
 have X1:=lt_of B1
 have bel:=b0 W
 go_enter Tryz.func160,Tryz.ntmps160
 refine gs 2 (Amb S W) fun _ K2=>?_
 refine .mc rfl ?_
 refine .mc rfl ?_
 refine .dk (fun u=>.slice (some ⟨b1,0,none⟩) 2 2::U::u 0::u 1::us 27) K2 bel fun u1 w1 D bel=>?_
 have E1_0:=D.q 0
 have E1_1:=D.q 1
 replace B1:=D.k B1
 clear D
 refine gs 1 (Amb S W) fun _ K3=>?_
 refine .mc rfl ?_
 refine .dk (fun u=>.slice (some ⟨b1,0,none⟩) 2 2::U::u1 0::u1 1::u 0::us 26) K3 bel fun u2 w2 D bel=>?_
 have E2_0:=D.q 0
 replace B1:=D.k B1
 clear D
 refine wp_seq_k fun _ K4=>?_
 refine gs 3 (Amb S W) fun _ K5=>?_
 refine .mz rfl 0 (V:=.slice (some ⟨b1,0,none⟩) 2 2) rfl ?_
 refine .e rfl (V:=.int .i64 2) (fun H=>x_lens (H.g 9 0)) ?_
 refine .mc rfl ?_
 refine .dk (fun u=>.slice (some ⟨b1,0,none⟩) 2 2::U::u1 0::u1 1::u2 0::U::U::U::U::sq u 0 3 (us 19)) K5 bel fun u3 w3 D bel=>?_
 have E3_0:=D.q 0
 have E3_1:=D.q 1
 have E3_2:=D.q 2
 replace B1:=D.k B1
 clear D
 refine wp_block ?_
 refine wp_loop_rounds 3 ?_
 refine rounds_k fun K6 hK6=>?_
 refine gs 1 (Amb S W) fun _ K7=>?_
 refine .e rfl (V:=.bool true) (fun H=>x_cmp (H.z 11 E3_2) (H.z 10 E3_1)) ?_
 refine .dk (fun u=>.slice (some ⟨b1,0,none⟩) 2 2::U::u1 0::u1 1::u2 0::U::U::U::U::sq u3 0 3 (u 0::us 18)) K7 bel fun u4 w4 D bel=>?_
 have E4_0:=D.q 0
 replace B1:=D.k B1
 clear D
 refine wp_seq_k fun _ K8=>?_
 refine wp_cond_true (by exact E4_0) ?_
 refine wp_skip ?_
 refine K8 _ _ ?_
 refine wp_seq_k fun _ K9=>?_
 refine wp_block ?_
 refine gs 4 (Amb S W) fun _ K10=>?_
 refine .e rfl (V:=pt b1) (fun H=>x_ixs 16 (H.z 9 E3_0) (H.z 11 E3_2)) ?_
 refine .lp rfl 0 (ciC x) B1 ?_
 refine .al rfl zCi ?_
 refine .so rfl 2 (fun H=>⟨H.r 6 2,H.g 14 1⟩) ?_
 refine .dk (fun u=>.slice (some ⟨b1,0,none⟩) 2 2::U::u1 0::u1 1::u2 0::U::u 2::U::U::sq u3 0 3 (u4 0::u 0::u 1::us 16)) K10 bel fun u5 w5 D bel=>?_
 obtain ⟨b11,E5_2,A11,B11⟩:=D.st 3
 have E5_0:=D.q 0
 have E5_1:=D.q 1
 replace B1:=D.k B1
 clear D
 refine gs 8 (Amb S W) fun _ K12=>?_
 refine .lr rfl 6 E5_2 B11 ?_
 refine .cR rfl [] Tryz.func155 (fun H=>⟨_,ar1 (H.g 16 0),eWheelO _ (by first | omega | exact p0 | exact p1)⟩) ?_
 refine .mn rfl 1 [1] ?_
 refine Go2.fn (i:=3) rfl (G0 rfl) (.val 3 [1,2] (RingP x)) (fun u μ ρ H=>by have e15:=H.r 15 2; have h0:=(H.a 2 rfl); obtain ⟨x0,x1,h1,h2⟩:=h0; rw [h1] at e15; exact ⟨x0,by clear H; go_simp,SP.tupKeep (by decide) (by decide) h2.1⟩) ?_
 refine .e rfl (V:=.bool true) (fun H=>by have e15:=H.r 15 2; have h0:=(H.a 2 rfl); obtain ⟨x0,x1,h1,h2,h3⟩:=h0; rw [h1] at e15; have h3:x1 = .bool true:=h3; subst h3; clear H; go_simp) ?_
 refine .al rfl (#[.pointer none,.pointer none,.pointer none,.pointer none]) ?_
 refine Go2.storeOwn (i:=6) (m:=5) rfl rfl (.head _) (SP.cells 5 [3] (fun u=>#[((u 3).v.cells.getD 0 undef),((u 3).v.cells.getD 1 undef),((u 3).v.cells.getD 2 undef),((u 3).v.cells.getD 3 undef)]) 203 (by intro u u' h; simp [h 3 (by simp)])) (fun u μ ρ b H h0 hB hb=>?_) ?_
 · have e7:=H.r 7 5; have e18:=H.r 18 3
   rw [h0] at e7
   obtain ⟨x1,x2,x3,x4,h1,h2,h3,h4,h5⟩:=(H.a 3 rfl)
   have o1:=VP1.rat h2
   have o2:=VP1.ratn h3
   have o3:=VP1.ratn h4
   have o4:=VP1.rat h5
   rw [h1] at e18
   refine ⟨μ.setRow b #[x1,x2,x3,x4],ex_store_row 203 _ _ rfl e7 e18 hb (by kernel_rfl) rfl (by simp [o1,o2,o3,o4] <;> rfl),fun g=>⟨b,?_,hB,?_⟩,setRow_only _ _ _⟩
   · rw [upd_other _ _ (by decide)]; exact h0
   · rw [setRow_at hb]; try simp [upd,h1,Value.cells]
 refine .mv rfl 4 ?_
 refine .dk (fun u=>.slice (some ⟨b1,0,none⟩) 2 2::U::u1 0::u1 1::u2 0::U::u5 2::u 5::u 7::sq u3 0 3 (u4 0::u5 0::u5 1::u 2::u 0::u 1::u 3::u 4::us 11)) K12 bel fun u6 w6 D bel=>?_
 obtain ⟨x13,x14,E6_1,F_x13,F_x14⟩:=(D.rr 1)
 obtain ⟨b15,x16,x17,b18,rfl,L15,L18,F15,F_x16,F_x17,F18⟩:=RingP.elim F_x13
 obtain rfl:x14 = _:=F_x14
 obtain ⟨x19,x20,E6_2,F_x19,F_x20⟩:=(D.rr 2)
 obtain ⟨b21,x22,x23,b24,rfl,L21,L24,F21,F_x22,F_x23,F24⟩:=RingP.elim F_x19
 obtain rfl:x20 = _:=F_x20
 obtain ⟨b25,x26,x27,b28,E6_3,L25,L28,F25,F_x26,F_x27,F28⟩:=RingP.elim (D.rr 3)
 obtain ⟨b29,E6_5,A29,B29⟩:=(D.a 6 rfl)
 replace A29:=le2 D.le A29
 have E6_0:=D.q 0
 have E6_4:=D.q 4
 have E6_7:=D.q 7
 replace B1:=D.k B1
 replace B11:=D.k B11
 simp only [Value.cells,E6_1,E6_2,E6_3,E6_5] at B29
 replace B29:w6.heap[b29]? = some (.cells #[pt b25,x26,x27,pt b28] 203 (0,0)):=B29
 clear D
 refine wp_seq_k fun _ K30=>?_
 refine gs 2 (Amb S W) fun _ K31=>?_
 refine .mz rfl 8 E6_7 ?_
 refine .e rfl (V:=.bool false) (fun H=>x_not (H.g 20 0)) ?_
 refine .dk (fun u=>.slice (some ⟨b1,0,none⟩) 2 2::U::u1 0::u1 1::u2 0::U::u5 2::u6 5::u6 7::sq u3 0 3 (u4 0::u5 0::u5 1::u6 2::u6 0::u6 1::u6 3::u6 4::u 0::u 1::us 9)) K31 bel fun u7 w7 D bel=>?_
 have E7_0:=D.q 0
 have E7_1:=D.q 1
 replace B1:=D.k B1
 replace B11:=D.k B11
 replace B29:=D.k B29
 replace F15:=D.o L15 F15
 replace F18:=D.o L18 F18
 replace F21:=D.o L21 F21
 replace F24:=D.o L24 F24
 replace F25:=D.o L25 F25
 replace F28:=D.o L28 F28
 replace F_x16:=D.gr (RatN x.b.re) F_x16
 replace F_x17:=D.gr (RatN x.b.im) F_x17
 replace F_x22:=D.gr (RatN x.b.re) F_x22
 replace F_x23:=D.gr (RatN x.b.im) F_x23
 replace F_x26:=D.gr (RatN x.b.re) F_x26
 replace F_x27:=D.gr (RatN x.b.im) F_x27
 clear D
 refine wp_cond_false (by exact E7_1) ?_
 refine wp_skip ?_
 refine K30 _ _ ?_
 refine wp_region_list ?_
 refine wpT_val rfl (ex_move rfl) ?_
 refine wpT_val (v:=.agg #[pt b25,x26,x27,pt b28]) rfl (ex_load_row 203 _ rfl (by exact E6_5) B29 Tryz.underlying203 rfl (by kernel_rfl)) ?_
 refine wpT_bs1 (e:=203) 4 (cs:=#[pt b25,x26,x27,pt b28]) rfl rfl rfl rfl (by kernel_rfl) (by kernel_rfl) (by decide) (by decide) rfl fun b33 w32 A33 B33 ow32=>?_
 have N1_33:=Nat.ne_of_lt (Nat.lt_of_lt_of_le (lt_of B1) A33)
 have N11_33:=Nat.ne_of_lt (Nat.lt_of_lt_of_le (lt_of B11) A33)
 have N29_33:=Nat.ne_of_lt (Nat.lt_of_lt_of_le (lt_of B29) A33)
 replace A33:=Nat.le_trans bel.size A33
 replace B1:=(ow32.block b1 (lt_of B1)).trans B1
 replace B11:=(ow32.block b11 (lt_of B11)).trans B11
 replace B29:=(ow32.block b29 (lt_of B29)).trans B29
 replace F15:=(RatP x.a).grow (Rgn.Below.growS ow32 (Nat.le_refl _) _) F15
 replace F18:=(RatP x.c).grow (Rgn.Below.growS ow32 (Nat.le_refl _) _) F18
 replace F21:=(RatP x.a).grow (Rgn.Below.growS ow32 (Nat.le_refl _) _) F21
 replace F24:=(RatP x.c).grow (Rgn.Below.growS ow32 (Nat.le_refl _) _) F24
 replace F25:=(RatP x.a).grow (Rgn.Below.growS ow32 (Nat.le_refl _) _) F25
 replace F28:=(RatP x.c).grow (Rgn.Below.growS ow32 (Nat.le_refl _) _) F28
 replace F_x16:=(RatN x.b.re).grow (Rgn.Below.growS ow32 (Nat.le_refl _) _) F_x16
 replace F_x17:=(RatN x.b.im).grow (Rgn.Below.growS ow32 (Nat.le_refl _) _) F_x17
 replace F_x22:=(RatN x.b.re).grow (Rgn.Below.growS ow32 (Nat.le_refl _) _) F_x22
 replace F_x23:=(RatN x.b.im).grow (Rgn.Below.growS ow32 (Nat.le_refl _) _) F_x23
 replace F_x26:=(RatN x.b.re).grow (Rgn.Below.growS ow32 (Nat.le_refl _) _) F_x26
 replace F_x27:=(RatN x.b.im).grow (Rgn.Below.growS ow32 (Nat.le_refl _) _) F_x27
 replace bel:=bel.trans (ow32.mono bel.size)
 refine wpT_apR (n₀:=W.heap.size) 32 rfl rfl (by exact E2_0) rfl (World.ownsRow_nil _ _ _ _) B33 rfl (VP1.ratn F_x26) (VP1.ratn F_x27) rfl bel.size (by decide) (by kernel_rfl) (by kernel_rfl) (by decide) rfl fun v34 w35 O_v34 ow35 gw35=>?_
 replace F15:=(RatP x.a).grow (gw35 _) F15
 replace F18:=(RatP x.c).grow (gw35 _) F18
 replace F21:=(RatP x.a).grow (gw35 _) F21
 replace F24:=(RatP x.c).grow (gw35 _) F24
 replace F25:=(RatP x.a).grow (gw35 _) F25
 replace F28:=(RatP x.c).grow (gw35 _) F28
 replace F_x16:=(RatN x.b.re).grow (gw35 _) F_x16
 replace F_x17:=(RatN x.b.im).grow (gw35 _) F_x17
 replace F_x22:=(RatN x.b.re).grow (gw35 _) F_x22
 replace F_x23:=(RatN x.b.im).grow (gw35 _) F_x23
 replace F_x26:=(RatN x.b.re).grow (gw35 _) F_x26
 replace F_x27:=(RatN x.b.im).grow (gw35 _) F_x27
 replace B1:=(ow35.block _ X1).trans B1
 replace bel:=bel.trans ow35
 refine wpList_as (fr (.slice (some ⟨b1,0,none⟩) 2 2::U::u1 0::u1 1::u2 0::U::u5 2::u6 5::u6 7::sq u3 0 3 (u4 0::u5 0::u5 1::u6 2::u6 0::u6 1::u6 3::u6 4::u7 0::u7 1::u2 0::.agg #[pt b25,x26,x27,pt b28]::.slice (some ⟨b33,0,none⟩) 1 1::v34::us 5))) (by kernel_rfl) ?_
 refine wpT_val rfl (ex_assign rfl) ?_
 refine wpList_as (fr (.slice (some ⟨b1,0,none⟩) 2 2::U::u1 0::u1 1::v34::U::u5 2::u6 5::u6 7::sq u3 0 3 (u4 0::u5 0::u5 1::u6 2::u6 0::u6 1::u6 3::u6 4::u7 0::u7 1::u2 0::.agg #[pt b25,x26,x27,pt b28]::.slice (some ⟨b33,0,none⟩) 1 1::v34::us 5))) (by kernel_rfl) ?_
 refine wpList_nil ?_
 show _
 refine inBlock_normal ?_
 refine K9 _ _ ?_
 refine wp_region_list ?_
 refine wpT_val (v:=.int .i64 1) rfl (by have aw_:IntKind.wrap .i64 1 = 1:=(by decide); have:=E3_2; go_simp) ?_
 refine wpT_val rfl (ex_move rfl) ?_
 refine wpList_as (fr (.slice (some ⟨b1,0,none⟩) 2 2::U::u1 0::u1 1::v34::U::u5 2::u6 5::u6 7::u3 0::u3 1::.int .i64 1::u4 0::u5 0::u5 1::u6 2::u6 0::u6 1::u6 3::u6 4::u7 0::u7 1::u2 0::.agg #[pt b25,x26,x27,pt b28]::.slice (some ⟨b33,0,none⟩) 1 1::v34::.int .i64 1::us 4)) (by kernel_rfl) ?_
 refine wpList_nil ?_
 show _
 refine hK6 _ _ ?_
 refine rounds_k fun K36 hK36=>?_
 refine gs 1 (Amb S W) fun _ K37=>?_
 refine .e rfl (V:=.bool true) (fun H=>x_cmp (H.v 11 (.int .i64 1)) (H.z 10 E3_1)) ?_
 refine .dk (fun u=>.slice (some ⟨b1,0,none⟩) 2 2::U::u1 0::u1 1::v34::U::u5 2::u6 5::u6 7::u3 0::u3 1::.int .i64 1::u 0::u5 0::u5 1::u6 2::u6 0::u6 1::u6 3::u6 4::u7 0::u7 1::u2 0::.agg #[pt b25,x26,x27,pt b28]::.slice (some ⟨b33,0,none⟩) 1 1::v34::.int .i64 1::us 4) K37 bel fun u10 w10 D bel=>?_
 have E10_0:=D.q 0
 replace B1:=D.k B1
 replace F15:=D.o L15 F15
 replace F18:=D.o L18 F18
 replace F21:=D.o L21 F21
 replace F24:=D.o L24 F24
 replace F25:=D.o L25 F25
 replace F28:=D.o L28 F28
 replace O_v34:=own_low O_v34 (D.d.base.bel0 (RowKit.Below.refl _ _) (Nat.le_refl _))
 replace F_x16:=D.gr (RatN x.b.re) F_x16
 replace F_x17:=D.gr (RatN x.b.im) F_x17
 replace F_x22:=D.gr (RatN x.b.re) F_x22
 replace F_x23:=D.gr (RatN x.b.im) F_x23
 replace F_x26:=D.gr (RatN x.b.re) F_x26
 replace F_x27:=D.gr (RatN x.b.im) F_x27
 clear D
 refine wp_seq_k fun _ K38=>?_
 refine wp_cond_true (by exact E10_0) ?_
 refine wp_skip ?_
 refine K38 _ _ ?_
 refine wp_seq_k fun _ K39=>?_
 refine wp_block ?_
 refine gs 4 (Amb S W) fun _ K40=>?_
 refine .e rfl (V:=.pointer (some ⟨b1,16,none⟩)) (fun H=>x_ixs 16 (H.z 9 E3_0) (H.v 11 (.int .i64 1))) ?_
 refine .lp rfl 0 (ciC y) B1 ?_
 refine .al rfl zCi ?_
 refine .so rfl 2 (fun H=>⟨H.r 6 2,H.g 14 1⟩) ?_
 refine .dk (fun u=>.slice (some ⟨b1,0,none⟩) 2 2::U::u1 0::u1 1::v34::U::u 2::u6 5::u6 7::u3 0::u3 1::.int .i64 1::u10 0::u 0::u 1::u6 2::u6 0::u6 1::u6 3::u6 4::u7 0::u7 1::u2 0::.agg #[pt b25,x26,x27,pt b28]::.slice (some ⟨b33,0,none⟩) 1 1::v34::.int .i64 1::us 4) K40 bel fun u11 w11 D bel=>?_
 obtain ⟨b41,E11_2,A41,B41⟩:=D.st 3
 have E11_0:=D.q 0
 have E11_1:=D.q 1
 replace B1:=D.k B1
 replace F15:=D.o L15 F15
 replace F18:=D.o L18 F18
 replace F21:=D.o L21 F21
 replace F24:=D.o L24 F24
 replace F25:=D.o L25 F25
 replace F28:=D.o L28 F28
 replace O_v34:=own_low O_v34 (D.d.base.bel0 (RowKit.Below.refl _ _) (Nat.le_refl _))
 replace F_x16:=D.gr (RatN x.b.re) F_x16
 replace F_x17:=D.gr (RatN x.b.im) F_x17
 replace F_x22:=D.gr (RatN x.b.re) F_x22
 replace F_x23:=D.gr (RatN x.b.im) F_x23
 replace F_x26:=D.gr (RatN x.b.re) F_x26
 replace F_x27:=D.gr (RatN x.b.im) F_x27
 clear D
 refine gs 8 (Amb S W) fun _ K42=>?_
 refine .lr rfl 6 E11_2 B41 ?_
 refine .cR rfl [] Tryz.func155 (fun H=>⟨_,ar1 (H.g 16 0),eWheelO _ (by first | omega | exact p0 | exact p1)⟩) ?_
 refine .mn rfl 1 [1] ?_
 refine Go2.fn (i:=3) rfl (G0 rfl) (.val 3 [1,2] (RingP y)) (fun u μ ρ H=>by have e15:=H.r 15 2; have h0:=(H.a 2 rfl); obtain ⟨x0,x1,h1,h2⟩:=h0; rw [h1] at e15; exact ⟨x0,by clear H; go_simp,SP.tupKeep (by decide) (by decide) h2.1⟩) ?_
 refine .e rfl (V:=.bool true) (fun H=>by have e15:=H.r 15 2; have h0:=(H.a 2 rfl); obtain ⟨x0,x1,h1,h2,h3⟩:=h0; rw [h1] at e15; have h3:x1 = .bool true:=h3; subst h3; clear H; go_simp) ?_
 refine .al rfl (#[.pointer none,.pointer none,.pointer none,.pointer none]) ?_
 refine Go2.storeOwn (i:=6) (m:=5) rfl rfl (.head _) (SP.cells 5 [3] (fun u=>#[((u 3).v.cells.getD 0 undef),((u 3).v.cells.getD 1 undef),((u 3).v.cells.getD 2 undef),((u 3).v.cells.getD 3 undef)]) 203 (by intro u u' h; simp [h 3 (by simp)])) (fun u μ ρ b H h0 hB hb=>?_) ?_
 · have e7:=H.r 7 5; have e18:=H.r 18 3
   rw [h0] at e7
   obtain ⟨x1,x2,x3,x4,h1,h2,h3,h4,h5⟩:=(H.a 3 rfl)
   have o1:=VP1.rat h2
   have o2:=VP1.ratn h3
   have o3:=VP1.ratn h4
   have o4:=VP1.rat h5
   rw [h1] at e18
   refine ⟨μ.setRow b #[x1,x2,x3,x4],ex_store_row 203 _ _ rfl e7 e18 hb (by kernel_rfl) rfl (by simp [o1,o2,o3,o4] <;> rfl),fun g=>⟨b,?_,hB,?_⟩,setRow_only _ _ _⟩
   · rw [upd_other _ _ (by decide)]; exact h0
   · rw [setRow_at hb]; try simp [upd,h1,Value.cells]
 refine .mv rfl 4 ?_
 refine .dk (fun u=>.slice (some ⟨b1,0,none⟩) 2 2::U::u1 0::u1 1::v34::U::u11 2::u 5::u 7::u3 0::u3 1::.int .i64 1::u10 0::u11 0::u11 1::u 2::u 0::u 1::u 3::u 4::u7 0::u7 1::u2 0::.agg #[pt b25,x26,x27,pt b28]::.slice (some ⟨b33,0,none⟩) 1 1::v34::.int .i64 1::us 4) K42 bel fun u12 w12 D bel=>?_
 obtain ⟨x43,x44,E12_1,F_x43,F_x44⟩:=(D.rr 1)
 obtain ⟨b45,x46,x47,b48,rfl,L45,L48,F45,F_x46,F_x47,F48⟩:=RingP.elim F_x43
 obtain rfl:x44 = _:=F_x44
 obtain ⟨x49,x50,E12_2,F_x49,F_x50⟩:=(D.rr 2)
 obtain ⟨b51,x52,x53,b54,rfl,L51,L54,F51,F_x52,F_x53,F54⟩:=RingP.elim F_x49
 obtain rfl:x50 = _:=F_x50
 obtain ⟨b55,x56,x57,b58,E12_3,L55,L58,F55,F_x56,F_x57,F58⟩:=RingP.elim (D.rr 3)
 obtain ⟨b59,E12_5,A59,B59⟩:=(D.a 6 rfl)
 replace A59:=le2 D.le A59
 have E12_0:=D.q 0
 have E12_4:=D.q 4
 have E12_7:=D.q 7
 replace B1:=D.k B1
 replace B41:=D.k B41
 simp only [Value.cells,E12_1,E12_2,E12_3,E12_5] at B59
 replace B59:w12.heap[b59]? = some (.cells #[pt b55,x56,x57,pt b58] 203 (0,0)):=B59
 replace F25:=D.o L25 F25
 replace F28:=D.o L28 F28
 replace O_v34:=own_low O_v34 (D.d.base.bel0 (RowKit.Below.refl _ _) (Nat.le_refl _))
 replace F_x26:=D.gr (RatN x.b.re) F_x26
 replace F_x27:=D.gr (RatN x.b.im) F_x27
 clear D
 refine wp_seq_k fun _ K60=>?_
 refine gs 2 (Amb S W) fun _ K61=>?_
 refine .mz rfl 8 E12_7 ?_
 refine .e rfl (V:=.bool false) (fun H=>x_not (H.g 20 0)) ?_
 refine .dk (fun u=>.slice (some ⟨b1,0,none⟩) 2 2::U::u1 0::u1 1::v34::U::u11 2::u12 5::u12 7::u3 0::u3 1::.int .i64 1::u10 0::u11 0::u11 1::u12 2::u12 0::u12 1::u12 3::u12 4::u 0::u 1::u2 0::.agg #[pt b25,x26,x27,pt b28]::.slice (some ⟨b33,0,none⟩) 1 1::v34::.int .i64 1::us 4) K61 bel fun u13 w13 D bel=>?_
 have E13_0:=D.q 0
 have E13_1:=D.q 1
 replace B1:=D.k B1
 replace B41:=D.k B41
 replace B59:=D.k B59
 replace F25:=D.o L25 F25
 replace F28:=D.o L28 F28
 replace F45:=D.o L45 F45
 replace F48:=D.o L48 F48
 replace F51:=D.o L51 F51
 replace F54:=D.o L54 F54
 replace F55:=D.o L55 F55
 replace F58:=D.o L58 F58
 replace O_v34:=own_low O_v34 (D.d.base.bel0 (RowKit.Below.refl _ _) (Nat.le_refl _))
 replace F_x26:=D.gr (RatN x.b.re) F_x26
 replace F_x27:=D.gr (RatN x.b.im) F_x27
 replace F_x46:=D.gr (RatN y.b.re) F_x46
 replace F_x47:=D.gr (RatN y.b.im) F_x47
 replace F_x52:=D.gr (RatN y.b.re) F_x52
 replace F_x53:=D.gr (RatN y.b.im) F_x53
 replace F_x56:=D.gr (RatN y.b.re) F_x56
 replace F_x57:=D.gr (RatN y.b.im) F_x57
 clear D
 refine wp_cond_false (by exact E13_1) ?_
 refine wp_skip ?_
 refine K60 _ _ ?_
 refine wp_region_list ?_
 refine wpT_val rfl (ex_move rfl) ?_
 refine wpList_as (fr (.slice (some ⟨b1,0,none⟩) 2 2::U::u1 0::u1 1::v34::U::u11 2::u12 5::u12 7::u3 0::u3 1::.int .i64 1::u10 0::u11 0::u11 1::u12 2::u12 0::u12 1::u12 3::u12 4::u13 0::u13 1::v34::.agg #[pt b25,x26,x27,pt b28]::.slice (some ⟨b33,0,none⟩) 1 1::v34::.int .i64 1::us 4)) (by kernel_rfl) ?_
 refine wpT_val (v:=.agg #[pt b55,x56,x57,pt b58]) rfl (ex_load_row 203 _ rfl (by exact E12_5) B59 Tryz.underlying203 rfl (by kernel_rfl)) ?_
 refine wpT_bs1 (e:=203) 4 (cs:=#[pt b55,x56,x57,pt b58]) rfl rfl rfl rfl (by kernel_rfl) (by kernel_rfl) (by decide) (by decide) rfl fun b63 w62 A63 B63 ow62=>?_
 have N1_63:=Nat.ne_of_lt (Nat.lt_of_lt_of_le (lt_of B1) A63)
 have N41_63:=Nat.ne_of_lt (Nat.lt_of_lt_of_le (lt_of B41) A63)
 have N59_63:=Nat.ne_of_lt (Nat.lt_of_lt_of_le (lt_of B59) A63)
 replace A63:=Nat.le_trans bel.size A63
 replace O_v34:=own_low O_v34 ow62
 replace B1:=(ow62.block b1 (lt_of B1)).trans B1
 replace B41:=(ow62.block b41 (lt_of B41)).trans B41
 replace B59:=(ow62.block b59 (lt_of B59)).trans B59
 replace F25:=(RatP x.a).grow (Rgn.Below.growS ow62 (Nat.le_refl _) _) F25
 replace F28:=(RatP x.c).grow (Rgn.Below.growS ow62 (Nat.le_refl _) _) F28
 replace F45:=(RatP y.a).grow (Rgn.Below.growS ow62 (Nat.le_refl _) _) F45
 replace F48:=(RatP y.c).grow (Rgn.Below.growS ow62 (Nat.le_refl _) _) F48
 replace F51:=(RatP y.a).grow (Rgn.Below.growS ow62 (Nat.le_refl _) _) F51
 replace F54:=(RatP y.c).grow (Rgn.Below.growS ow62 (Nat.le_refl _) _) F54
 replace F55:=(RatP y.a).grow (Rgn.Below.growS ow62 (Nat.le_refl _) _) F55
 replace F58:=(RatP y.c).grow (Rgn.Below.growS ow62 (Nat.le_refl _) _) F58
 replace F_x26:=(RatN x.b.re).grow (Rgn.Below.growS ow62 (Nat.le_refl _) _) F_x26
 replace F_x27:=(RatN x.b.im).grow (Rgn.Below.growS ow62 (Nat.le_refl _) _) F_x27
 replace F_x46:=(RatN y.b.re).grow (Rgn.Below.growS ow62 (Nat.le_refl _) _) F_x46
 replace F_x47:=(RatN y.b.im).grow (Rgn.Below.growS ow62 (Nat.le_refl _) _) F_x47
 replace F_x52:=(RatN y.b.re).grow (Rgn.Below.growS ow62 (Nat.le_refl _) _) F_x52
 replace F_x53:=(RatN y.b.im).grow (Rgn.Below.growS ow62 (Nat.le_refl _) _) F_x53
 replace F_x56:=(RatN y.b.re).grow (Rgn.Below.growS ow62 (Nat.le_refl _) _) F_x56
 replace F_x57:=(RatN y.b.im).grow (Rgn.Below.growS ow62 (Nat.le_refl _) _) F_x57
 replace bel:=bel.trans (ow62.mono bel.size)
 refine wpT_apR (n₀:=W.heap.size) 32 rfl rfl rfl rfl O_v34 B63 rfl (VP1.ratn F_x56) (VP1.ratn F_x57) rfl bel.size (by decide) (by kernel_rfl) (by kernel_rfl) (by decide) rfl fun v64 w65 O_v64 ow65 gw65=>?_
 replace F25:=(RatP x.a).grow (gw65 _) F25
 replace F28:=(RatP x.c).grow (gw65 _) F28
 replace F45:=(RatP y.a).grow (gw65 _) F45
 replace F48:=(RatP y.c).grow (gw65 _) F48
 replace F51:=(RatP y.a).grow (gw65 _) F51
 replace F54:=(RatP y.c).grow (gw65 _) F54
 replace F55:=(RatP y.a).grow (gw65 _) F55
 replace F58:=(RatP y.c).grow (gw65 _) F58
 replace F_x26:=(RatN x.b.re).grow (gw65 _) F_x26
 replace F_x27:=(RatN x.b.im).grow (gw65 _) F_x27
 replace F_x46:=(RatN y.b.re).grow (gw65 _) F_x46
 replace F_x47:=(RatN y.b.im).grow (gw65 _) F_x47
 replace F_x52:=(RatN y.b.re).grow (gw65 _) F_x52
 replace F_x53:=(RatN y.b.im).grow (gw65 _) F_x53
 replace F_x56:=(RatN y.b.re).grow (gw65 _) F_x56
 replace F_x57:=(RatN y.b.im).grow (gw65 _) F_x57
 replace B1:=(ow65.block _ X1).trans B1
 replace bel:=bel.trans ow65
 refine wpT_val rfl (ex_assign rfl) ?_
 refine wpList_as (fr (.slice (some ⟨b1,0,none⟩) 2 2::U::u1 0::u1 1::v64::U::u11 2::u12 5::u12 7::u3 0::u3 1::.int .i64 1::u10 0::u11 0::u11 1::u12 2::u12 0::u12 1::u12 3::u12 4::u13 0::u13 1::v34::.agg #[pt b55,x56,x57,pt b58]::.slice (some ⟨b63,0,none⟩) 1 1::v64::.int .i64 1::us 4)) (by kernel_rfl) ?_
 refine wpList_as (fr (.slice (some ⟨b1,0,none⟩) 2 2::U::u1 0::u1 1::v64::U::u11 2::u12 5::u12 7::u3 0::u3 1::.int .i64 1::u10 0::u11 0::u11 1::u12 2::u12 0::u12 1::u12 3::u12 4::u13 0::u13 1::v34::.agg #[pt b55,x56,x57,pt b58]::.slice (some ⟨b63,0,none⟩) 1 1::v64::.int .i64 1::us 4)) (by kernel_rfl) ?_
 refine wpList_nil ?_
 show _
 refine inBlock_normal ?_
 refine K39 _ _ ?_
 refine wp_region_list ?_
 refine wpT_val (v:=.int .i64 2) rfl (by have aw_:IntKind.wrap .i64 2 = 2:=(by decide); go_simp) ?_
 refine wpT_val rfl (ex_move rfl) ?_
 refine wpList_as (fr (.slice (some ⟨b1,0,none⟩) 2 2::U::u1 0::u1 1::v64::U::u11 2::u12 5::u12 7::u3 0::u3 1::.int .i64 2::u10 0::u11 0::u11 1::u12 2::u12 0::u12 1::u12 3::u12 4::u13 0::u13 1::v34::.agg #[pt b55,x56,x57,pt b58]::.slice (some ⟨b63,0,none⟩) 1 1::v64::.int .i64 2::us 4)) (by kernel_rfl) ?_
 refine wpList_nil ?_
 show _
 refine hK36 _ _ ?_
 refine rounds_k fun K66 hK66=>?_
 refine gs 1 (Amb S W) fun _ K67=>?_
 refine .e rfl (V:=.bool false) (fun H=>x_cmp (H.v 11 (.int .i64 2)) (H.z 10 E3_1)) ?_
 refine .dk (fun u=>.slice (some ⟨b1,0,none⟩) 2 2::U::u1 0::u1 1::v64::U::u11 2::u12 5::u12 7::u3 0::u3 1::.int .i64 2::u 0::u11 0::u11 1::u12 2::u12 0::u12 1::u12 3::u12 4::u13 0::u13 1::v34::.agg #[pt b55,x56,x57,pt b58]::.slice (some ⟨b63,0,none⟩) 1 1::v64::.int .i64 2::us 4) K67 bel fun u16 w16 D bel=>?_
 have E16_0:=D.q 0
 replace B1:=D.k B1
 replace F25:=D.o L25 F25
 replace F28:=D.o L28 F28
 replace F45:=D.o L45 F45
 replace F48:=D.o L48 F48
 replace F51:=D.o L51 F51
 replace F54:=D.o L54 F54
 replace F55:=D.o L55 F55
 replace F58:=D.o L58 F58
 replace O_v64:=own_low O_v64 (D.d.base.bel0 (RowKit.Below.refl _ _) (Nat.le_refl _))
 replace F_x26:=D.gr (RatN x.b.re) F_x26
 replace F_x27:=D.gr (RatN x.b.im) F_x27
 replace F_x46:=D.gr (RatN y.b.re) F_x46
 replace F_x47:=D.gr (RatN y.b.im) F_x47
 replace F_x52:=D.gr (RatN y.b.re) F_x52
 replace F_x53:=D.gr (RatN y.b.im) F_x53
 replace F_x56:=D.gr (RatN y.b.re) F_x56
 replace F_x57:=D.gr (RatN y.b.im) F_x57
 clear D
 refine wp_seq_k fun _ K68=>?_
 refine wp_cond_false (by exact E16_0) ?_
 refine wp_exit ?_
 refine then_exit ?_
 refine then_exit ?_
 refine inBlock_here ?_
 refine K4 _ _ ?_
 refine wp_seq_k fun _ K69=>?_
 refine gs 3 (Amb S W) fun _ K70=>?_
 refine .mz rfl 0 (V:=.slice (some ⟨b1,0,none⟩) 2 2) rfl ?_
 refine .e rfl (V:=.int .i64 2) (fun H=>x_lens (H.g 27 0)) ?_
 refine .e rfl (V:=.bool false) (fun H=>x_cmp (H.g 28 1) (H.c _)) ?_
 refine .dk (fun u=>.slice (some ⟨b1,0,none⟩) 2 2::U::u1 0::u1 1::v64::U::u11 2::u12 5::u12 7::u3 0::u3 1::.int .i64 2::u16 0::u11 0::u11 1::u12 2::u12 0::u12 1::u12 3::u12 4::u13 0::u13 1::v34::.agg #[pt b55,x56,x57,pt b58]::.slice (some ⟨b63,0,none⟩) 1 1::v64::.int .i64 2::sq u 0 3 (U::[])) K70 bel fun u17 w17 D bel=>?_
 have E17_2:=D.q 2
 replace F25:=D.o L25 F25
 replace F28:=D.o L28 F28
 replace F55:=D.o L55 F55
 replace F58:=D.o L58 F58
 replace O_v64:=own_low O_v64 (D.d.base.bel0 (RowKit.Below.refl _ _) (Nat.le_refl _))
 replace F_x26:=D.gr (RatN x.b.re) F_x26
 replace F_x27:=D.gr (RatN x.b.im) F_x27
 replace F_x56:=D.gr (RatN y.b.re) F_x56
 replace F_x57:=D.gr (RatN y.b.im) F_x57
 clear D
 refine wp_cond_false (by exact E17_2) ?_
 refine wp_skip ?_
 refine K69 _ _ ?_
 refine gs 3 (Amb S W) fun _ K71=>?_
 refine .mz rfl 4 (V:=v64) rfl ?_
 refine .mv rfl 0 ?_
 refine .mc rfl ?_
 refine .dk (fun u=>.slice (some ⟨b1,0,none⟩) 2 2::U::u 1::u 2::v64::U::u11 2::u12 5::u12 7::u3 0::u3 1::.int .i64 2::u16 0::u11 0::u11 1::u12 2::u12 0::u12 1::u12 3::u12 4::u13 0::u13 1::v34::.agg #[pt b55,x56,x57,pt b58]::.slice (some ⟨b63,0,none⟩) 1 1::v64::.int .i64 2::sq u17 0 3 (u 0::[])) K71 bel fun u18 w18 D bel=>?_
 have E18_1:=D.q 1
 have E18_2:=D.q 2
 replace F25:=D.o L25 F25
 replace F28:=D.o L28 F28
 replace F55:=D.o L55 F55
 replace F58:=D.o L58 F58
 replace O_v64:=own_low O_v64 (D.d.base.bel0 (RowKit.Below.refl _ _) (Nat.le_refl _))
 replace F_x26:=D.gr (RatN x.b.re) F_x26
 replace F_x27:=D.gr (RatN x.b.im) F_x27
 replace F_x56:=D.gr (RatN y.b.re) F_x56
 replace F_x57:=D.gr (RatN y.b.im) F_x57
 clear D
 refine wp_ret ?_
 obtain ⟨b_,cap_,cur_,e_,hb_,hB_,hq_⟩:=own_open O_v64 (by decide)
 subst e_
 exact ret_ok rfl (by exact results_two rfl (by exact E18_1) (by exact E18_2)) ⟨b_,cap_,cur_,_,rfl,hb_,hB_,hq_,⟨(RingP.mk (VP.at F25 L25) F_x26 F_x27 (VP.at F28 L28)),⟨(RingP.mk (VP.at F55 L55) F_x56 F_x57 (VP.at F58 L58)),trivial⟩⟩,bel⟩
theorem ivWhA {b1:Nat} (r:RCi) (q:RCi) (B1:W.heap[b1]? = some (.cells #[.bool r.a.a.n,.string r.a.a.s,.bool r.a.b.n,.string r.a.b.s,.bool r.b.re.a.n,.string r.b.re.a.s,.bool r.b.re.b.n,.string r.b.re.b.s,.bool r.b.im.a.n,.string r.b.im.a.s,.bool r.b.im.b.n,.string r.b.im.b.s,.bool r.c.a.n,.string r.c.a.s,.bool r.c.b.n,.string r.c.b.s,.bool q.a.a.n,.string q.a.a.s,.bool q.a.b.n,.string q.a.b.s,.bool q.b.re.a.n,.string q.b.re.a.s,.bool q.b.re.b.n,.string q.b.re.b.s,.bool q.b.im.a.n,.string q.b.im.a.s,.bool q.b.im.b.n,.string q.b.im.b.s,.bool q.c.a.n,.string q.c.a.s,.bool q.c.b.n,.string q.c.b.s] 47 (0,0))) (p0:ciOk r = false) :
  Calls Tryz.prog 160 #[.slice (some ⟨b1,0,none⟩) 2 2] W (RetV (.tuple #[.slice none 0 0,.int .i64 2]) W):=by
 have X1:=lt_of B1
 have bel:=b0 W
 go_enter Tryz.func160,Tryz.ntmps160
 refine gs 2 (Amb Z0 W) fun _ K2=>?_
 refine .mc rfl ?_
 refine .mc rfl ?_
 refine .dk (fun u=>.slice (some ⟨b1,0,none⟩) 2 2::U::u 0::u 1::us 27) K2 bel fun u1 w1 D bel=>?_
 have E1_0:=D.q 0
 have E1_1:=D.q 1
 replace B1:=D.k B1
 clear D
 refine gs 1 (Amb Z0 W) fun _ K3=>?_
 refine .mc rfl ?_
 refine .dk (fun u=>.slice (some ⟨b1,0,none⟩) 2 2::U::u1 0::u1 1::u 0::us 26) K3 bel fun u2 w2 D bel=>?_
 have E2_0:=D.q 0
 replace B1:=D.k B1
 clear D
 refine wp_seq_k fun _ K4=>?_
 refine gs 3 (Amb Z0 W) fun _ K5=>?_
 refine .mz rfl 0 (V:=.slice (some ⟨b1,0,none⟩) 2 2) rfl ?_
 refine .e rfl (V:=.int .i64 2) (fun H=>x_lens (H.g 9 0)) ?_
 refine .mc rfl ?_
 refine .dk (fun u=>.slice (some ⟨b1,0,none⟩) 2 2::U::u1 0::u1 1::u2 0::U::U::U::U::sq u 0 3 (us 19)) K5 bel fun u3 w3 D bel=>?_
 have E3_0:=D.q 0
 have E3_1:=D.q 1
 have E3_2:=D.q 2
 replace B1:=D.k B1
 clear D
 refine wp_block ?_
 refine wp_loop_rounds 3 ?_
 refine rounds_k fun K6 hK6=>?_
 refine gs 1 (Amb Z0 W) fun _ K7=>?_
 refine .e rfl (V:=.bool true) (fun H=>x_cmp (H.z 11 E3_2) (H.z 10 E3_1)) ?_
 refine .dk (fun u=>.slice (some ⟨b1,0,none⟩) 2 2::U::u1 0::u1 1::u2 0::U::U::U::U::sq u3 0 3 (u 0::us 18)) K7 bel fun u4 w4 D bel=>?_
 have E4_0:=D.q 0
 replace B1:=D.k B1
 clear D
 refine wp_seq_k fun _ K8=>?_
 refine wp_cond_true (by exact E4_0) ?_
 refine wp_skip ?_
 refine K8 _ _ ?_
 refine wp_seq_k fun _ K9=>?_
 refine wp_block ?_
 refine gs 4 (Amb Z0 W) fun _ K10=>?_
 refine .e rfl (V:=pt b1) (fun H=>x_ixs 16 (H.z 9 E3_0) (H.z 11 E3_2)) ?_
 refine .lp rfl 0 (rciC r) B1 ?_
 refine .al rfl zCi ?_
 refine .so rfl 2 (fun H=>⟨H.r 6 2,H.g 14 1⟩) ?_
 refine .dk (fun u=>.slice (some ⟨b1,0,none⟩) 2 2::U::u1 0::u1 1::u2 0::U::u 2::U::U::sq u3 0 3 (u4 0::u 0::u 1::us 16)) K10 bel fun u5 w5 D bel=>?_
 obtain ⟨b11,E5_2,A11,B11⟩:=D.st 3
 have E5_0:=D.q 0
 have E5_1:=D.q 1
 replace B1:=D.k B1
 clear D
 refine gs 8 (Amb Z0 W) fun _ K12=>?_
 refine .lr rfl 6 E5_2 B11 ?_
 refine .cR rfl [] Tryz.func155 (fun H=>⟨_,ar1 (H.g 16 0),eWheelN _ (by first | omega | assumption)⟩) ?_
 refine .mn rfl 1 [1] ?_
 refine Go2.fn (i:=3) rfl (G0 rfl) (.val 3 [1,2] (RingJ 0)) (fun u μ ρ H=>by have e15:=H.r 15 2; have h0:=(H.a 2 rfl); obtain ⟨x0,x1,h1,h2⟩:=h0; rw [h1] at e15; exact ⟨x0,by clear H; go_simp,SP.tupKeep (by decide) (by decide) h2.1⟩) ?_
 refine .e rfl (V:=.bool false) (fun H=>by have e15:=H.r 15 2; have h0:=(H.a 2 rfl); obtain ⟨x0,x1,h1,h2,h3⟩:=h0; rw [h1] at e15; have h3:x1 = .bool false:=h3; subst h3; clear H; go_simp) ?_
 refine .al rfl (#[.pointer none,.pointer none,.pointer none,.pointer none]) ?_
 refine Go2.storeOwn (i:=6) (m:=5) rfl rfl (.head _) (SP.cells 5 [3] (fun u=>#[((u 3).v.cells.getD 0 undef),((u 3).v.cells.getD 1 undef),((u 3).v.cells.getD 2 undef),((u 3).v.cells.getD 3 undef)]) 203 (by intro u u' h; simp [h 3 (by simp)])) (fun u μ ρ b H h0 hB hb=>?_) ?_
 · have e7:=H.r 7 5; have e18:=H.r 18 3
   rw [h0] at e7
   obtain ⟨x1,x2,x3,x4,h1,h2,h3,h4,h5⟩:=(H.a 3 rfl)
   have o1:=VP1.ptr h2
   have o2:=VP1.ptr h3
   have o3:=VP1.ptr h4
   have o4:=VP1.ptr h5
   rw [h1] at e18
   refine ⟨μ.setRow b #[x1,x2,x3,x4],ex_store_row 203 _ _ rfl e7 e18 hb (by kernel_rfl) rfl (by simp [o1,o2,o3,o4] <;> rfl),fun g=>⟨b,?_,hB,?_⟩,setRow_only _ _ _⟩
   · rw [upd_other _ _ (by decide)]; exact h0
   · rw [setRow_at hb]; try simp [upd,h1,Value.cells]
 refine .mv rfl 4 ?_
 refine .dk (fun u=>.slice (some ⟨b1,0,none⟩) 2 2::U::u1 0::u1 1::u2 0::U::u5 2::u 5::u 7::sq u3 0 3 (u4 0::u5 0::u5 1::u 2::u 0::u 1::u 3::u 4::us 11)) K12 bel fun u6 w6 D bel=>?_
 obtain ⟨x13,x14,E6_1,F_x13,F_x14⟩:=(D.rr 1)
 obtain ⟨x15,x16,x17,x18,rfl,F_x15,F_x16,F_x17,F_x18⟩:=F_x13
 obtain rfl:x14 = _:=F_x14
 obtain ⟨x19,x20,E6_2,F_x19,F_x20⟩:=(D.rr 2)
 obtain ⟨x21,x22,x23,x24,rfl,F_x21,F_x22,F_x23,F_x24⟩:=F_x19
 obtain rfl:x20 = _:=F_x20
 obtain ⟨x25,x26,x27,x28,E6_3,F_x25,F_x26,F_x27,F_x28⟩:=(D.rr 3)
 obtain ⟨b29,E6_5,A29,B29⟩:=(D.a 6 rfl)
 replace A29:=le2 D.le A29
 have E6_0:=D.q 0
 have E6_4:=D.q 4
 have E6_7:=D.q 7
 replace B1:=D.k B1
 replace B11:=D.k B11
 simp only [Value.cells,E6_1,E6_2,E6_3,E6_5] at B29
 replace B29:w6.heap[b29]? = some (.cells #[x25,x26,x27,x28] 203 (0,0)):=B29
 clear D
 refine wp_seq_k fun _ K30=>?_
 refine gs 2 (Amb Z0 W) fun _ K31=>?_
 refine .mz rfl 8 E6_7 ?_
 refine .e rfl (V:=.bool true) (fun H=>x_not (H.g 20 0)) ?_
 refine .dk (fun u=>.slice (some ⟨b1,0,none⟩) 2 2::U::u1 0::u1 1::u2 0::U::u5 2::u6 5::u6 7::sq u3 0 3 (u4 0::u5 0::u5 1::u6 2::u6 0::u6 1::u6 3::u6 4::u 0::u 1::us 9)) K31 bel fun u7 w7 D bel=>?_
 have E7_0:=D.q 0
 have E7_1:=D.q 1
 replace B1:=D.k B1
 replace B11:=D.k B11
 replace B29:=D.k B29
 replace F_x15:=D.gr (PtrP 0) F_x15
 replace F_x16:=D.gr (PtrP 0) F_x16
 replace F_x17:=D.gr (PtrP 0) F_x17
 replace F_x18:=D.gr (PtrP 0) F_x18
 replace F_x21:=D.gr (PtrP 0) F_x21
 replace F_x22:=D.gr (PtrP 0) F_x22
 replace F_x23:=D.gr (PtrP 0) F_x23
 replace F_x24:=D.gr (PtrP 0) F_x24
 replace F_x25:=D.gr (PtrP 0) F_x25
 replace F_x26:=D.gr (PtrP 0) F_x26
 replace F_x27:=D.gr (PtrP 0) F_x27
 replace F_x28:=D.gr (PtrP 0) F_x28
 clear D
 refine wp_cond_true (by exact E7_1) ?_
 refine gs 2 (Amb Z0 W) fun _ K32=>?_
 refine .mc rfl ?_
 refine .mc rfl ?_
 refine .dk (fun u=>.slice (some ⟨b1,0,none⟩) 2 2::U::u 0::u 1::u2 0::U::u5 2::u6 5::u6 7::sq u3 0 3 (u4 0::u5 0::u5 1::u6 2::u6 0::u6 1::u6 3::u6 4::u7 0::u7 1::us 9)) K32 bel fun u8 w8 D bel=>?_
 have E8_0:=D.q 0
 have E8_1:=D.q 1
 clear D
 refine wp_ret ?_
 refine ret_ok rfl (by exact results_two rfl (by exact E8_0) (by exact E8_1)) (RetV.mk ?_ bel)
 exact congrArg Ending.returned (rfl)
theorem ivWhB {b1:Nat} (x:Ci) (q:RCi) (B1:W.heap[b1]? = some (.cells #[.bool (decide (x.a.num < 0)),.string (bS x.a.num.natAbs),.bool (decide ((x.a.den:Int) < 0)),.string (bS (x.a.den:Int).natAbs),.bool (decide (x.b.re.num < 0)),.string (bS x.b.re.num.natAbs),.bool (decide ((x.b.re.den:Int) < 0)),.string (bS (x.b.re.den:Int).natAbs),.bool (decide (x.b.im.num < 0)),.string (bS x.b.im.num.natAbs),.bool (decide ((x.b.im.den:Int) < 0)),.string (bS (x.b.im.den:Int).natAbs),.bool (decide (x.c.num < 0)),.string (bS x.c.num.natAbs),.bool (decide ((x.c.den:Int) < 0)),.string (bS (x.c.den:Int).natAbs),.bool q.a.a.n,.string q.a.a.s,.bool q.a.b.n,.string q.a.b.s,.bool q.b.re.a.n,.string q.b.re.a.s,.bool q.b.re.b.n,.string q.b.re.b.s,.bool q.b.im.a.n,.string q.b.im.a.s,.bool q.b.im.b.n,.string q.b.im.b.s,.bool q.c.a.n,.string q.c.a.s,.bool q.c.b.n,.string q.c.b.s] 47 (0,0))) (p0:ciOk (rci x) = true) (p1:ciOk q = false) :
  Calls Tryz.prog 160 #[.slice (some ⟨b1,0,none⟩) 2 2] W (RetV (.tuple #[.slice none 0 0,.int .i64 2]) W):=by
 have X1:=lt_of B1
 have bel:=b0 W
 go_enter Tryz.func160,Tryz.ntmps160
 refine gs 2 (Amb Z0 W) fun _ K2=>?_
 refine .mc rfl ?_
 refine .mc rfl ?_
 refine .dk (fun u=>.slice (some ⟨b1,0,none⟩) 2 2::U::u 0::u 1::us 27) K2 bel fun u1 w1 D bel=>?_
 have E1_0:=D.q 0
 have E1_1:=D.q 1
 replace B1:=D.k B1
 clear D
 refine gs 1 (Amb Z0 W) fun _ K3=>?_
 refine .mc rfl ?_
 refine .dk (fun u=>.slice (some ⟨b1,0,none⟩) 2 2::U::u1 0::u1 1::u 0::us 26) K3 bel fun u2 w2 D bel=>?_
 have E2_0:=D.q 0
 replace B1:=D.k B1
 clear D
 refine wp_seq_k fun _ K4=>?_
 refine gs 3 (Amb Z0 W) fun _ K5=>?_
 refine .mz rfl 0 (V:=.slice (some ⟨b1,0,none⟩) 2 2) rfl ?_
 refine .e rfl (V:=.int .i64 2) (fun H=>x_lens (H.g 9 0)) ?_
 refine .mc rfl ?_
 refine .dk (fun u=>.slice (some ⟨b1,0,none⟩) 2 2::U::u1 0::u1 1::u2 0::U::U::U::U::sq u 0 3 (us 19)) K5 bel fun u3 w3 D bel=>?_
 have E3_0:=D.q 0
 have E3_1:=D.q 1
 have E3_2:=D.q 2
 replace B1:=D.k B1
 clear D
 refine wp_block ?_
 refine wp_loop_rounds 3 ?_
 refine rounds_k fun K6 hK6=>?_
 refine gs 1 (Amb Z0 W) fun _ K7=>?_
 refine .e rfl (V:=.bool true) (fun H=>x_cmp (H.z 11 E3_2) (H.z 10 E3_1)) ?_
 refine .dk (fun u=>.slice (some ⟨b1,0,none⟩) 2 2::U::u1 0::u1 1::u2 0::U::U::U::U::sq u3 0 3 (u 0::us 18)) K7 bel fun u4 w4 D bel=>?_
 have E4_0:=D.q 0
 replace B1:=D.k B1
 clear D
 refine wp_seq_k fun _ K8=>?_
 refine wp_cond_true (by exact E4_0) ?_
 refine wp_skip ?_
 refine K8 _ _ ?_
 refine wp_seq_k fun _ K9=>?_
 refine wp_block ?_
 refine gs 4 (Amb Z0 W) fun _ K10=>?_
 refine .e rfl (V:=pt b1) (fun H=>x_ixs 16 (H.z 9 E3_0) (H.z 11 E3_2)) ?_
 refine .lp rfl 0 (ciC x) B1 ?_
 refine .al rfl zCi ?_
 refine .so rfl 2 (fun H=>⟨H.r 6 2,H.g 14 1⟩) ?_
 refine .dk (fun u=>.slice (some ⟨b1,0,none⟩) 2 2::U::u1 0::u1 1::u2 0::U::u 2::U::U::sq u3 0 3 (u4 0::u 0::u 1::us 16)) K10 bel fun u5 w5 D bel=>?_
 obtain ⟨b11,E5_2,A11,B11⟩:=D.st 3
 have E5_0:=D.q 0
 have E5_1:=D.q 1
 replace B1:=D.k B1
 clear D
 refine gs 8 (Amb Z0 W) fun _ K12=>?_
 refine .lr rfl 6 E5_2 B11 ?_
 refine .cR rfl [] Tryz.func155 (fun H=>⟨_,ar1 (H.g 16 0),eWheelO _ (by first | omega | assumption)⟩) ?_
 refine .mn rfl 1 [1] ?_
 refine Go2.fn (i:=3) rfl (G0 rfl) (.val 3 [1,2] (RingP x)) (fun u μ ρ H=>by have e15:=H.r 15 2; have h0:=(H.a 2 rfl); obtain ⟨x0,x1,h1,h2⟩:=h0; rw [h1] at e15; exact ⟨x0,by clear H; go_simp,SP.tupKeep (by decide) (by decide) h2.1⟩) ?_
 refine .e rfl (V:=.bool true) (fun H=>by have e15:=H.r 15 2; have h0:=(H.a 2 rfl); obtain ⟨x0,x1,h1,h2,h3⟩:=h0; rw [h1] at e15; have h3:x1 = .bool true:=h3; subst h3; clear H; go_simp) ?_
 refine .al rfl (#[.pointer none,.pointer none,.pointer none,.pointer none]) ?_
 refine Go2.storeOwn (i:=6) (m:=5) rfl rfl (.head _) (SP.cells 5 [3] (fun u=>#[((u 3).v.cells.getD 0 undef),((u 3).v.cells.getD 1 undef),((u 3).v.cells.getD 2 undef),((u 3).v.cells.getD 3 undef)]) 203 (by intro u u' h; simp [h 3 (by simp)])) (fun u μ ρ b H h0 hB hb=>?_) ?_
 · have e7:=H.r 7 5; have e18:=H.r 18 3
   rw [h0] at e7
   obtain ⟨x1,x2,x3,x4,h1,h2,h3,h4,h5⟩:=(H.a 3 rfl)
   have o1:=VP1.rat h2
   have o2:=VP1.ratn h3
   have o3:=VP1.ratn h4
   have o4:=VP1.rat h5
   rw [h1] at e18
   refine ⟨μ.setRow b #[x1,x2,x3,x4],ex_store_row 203 _ _ rfl e7 e18 hb (by kernel_rfl) rfl (by simp [o1,o2,o3,o4] <;> rfl),fun g=>⟨b,?_,hB,?_⟩,setRow_only _ _ _⟩
   · rw [upd_other _ _ (by decide)]; exact h0
   · rw [setRow_at hb]; try simp [upd,h1,Value.cells]
 refine .mv rfl 4 ?_
 refine .dk (fun u=>.slice (some ⟨b1,0,none⟩) 2 2::U::u1 0::u1 1::u2 0::U::u5 2::u 5::u 7::sq u3 0 3 (u4 0::u5 0::u5 1::u 2::u 0::u 1::u 3::u 4::us 11)) K12 bel fun u6 w6 D bel=>?_
 obtain ⟨x13,x14,E6_1,F_x13,F_x14⟩:=(D.rr 1)
 obtain ⟨b15,x16,x17,b18,rfl,L15,L18,F15,F_x16,F_x17,F18⟩:=RingP.elim F_x13
 obtain rfl:x14 = _:=F_x14
 obtain ⟨x19,x20,E6_2,F_x19,F_x20⟩:=(D.rr 2)
 obtain ⟨b21,x22,x23,b24,rfl,L21,L24,F21,F_x22,F_x23,F24⟩:=RingP.elim F_x19
 obtain rfl:x20 = _:=F_x20
 obtain ⟨b25,x26,x27,b28,E6_3,L25,L28,F25,F_x26,F_x27,F28⟩:=RingP.elim (D.rr 3)
 obtain ⟨b29,E6_5,A29,B29⟩:=(D.a 6 rfl)
 replace A29:=le2 D.le A29
 have E6_0:=D.q 0
 have E6_4:=D.q 4
 have E6_7:=D.q 7
 replace B1:=D.k B1
 replace B11:=D.k B11
 simp only [Value.cells,E6_1,E6_2,E6_3,E6_5] at B29
 replace B29:w6.heap[b29]? = some (.cells #[pt b25,x26,x27,pt b28] 203 (0,0)):=B29
 clear D
 refine wp_seq_k fun _ K30=>?_
 refine gs 2 (Amb Z0 W) fun _ K31=>?_
 refine .mz rfl 8 E6_7 ?_
 refine .e rfl (V:=.bool false) (fun H=>x_not (H.g 20 0)) ?_
 refine .dk (fun u=>.slice (some ⟨b1,0,none⟩) 2 2::U::u1 0::u1 1::u2 0::U::u5 2::u6 5::u6 7::sq u3 0 3 (u4 0::u5 0::u5 1::u6 2::u6 0::u6 1::u6 3::u6 4::u 0::u 1::us 9)) K31 bel fun u7 w7 D bel=>?_
 have E7_0:=D.q 0
 have E7_1:=D.q 1
 replace B1:=D.k B1
 replace B11:=D.k B11
 replace B29:=D.k B29
 replace F15:=D.o L15 F15
 replace F18:=D.o L18 F18
 replace F21:=D.o L21 F21
 replace F24:=D.o L24 F24
 replace F25:=D.o L25 F25
 replace F28:=D.o L28 F28
 replace F_x16:=D.gr (RatN x.b.re) F_x16
 replace F_x17:=D.gr (RatN x.b.im) F_x17
 replace F_x22:=D.gr (RatN x.b.re) F_x22
 replace F_x23:=D.gr (RatN x.b.im) F_x23
 replace F_x26:=D.gr (RatN x.b.re) F_x26
 replace F_x27:=D.gr (RatN x.b.im) F_x27
 clear D
 refine wp_cond_false (by exact E7_1) ?_
 refine wp_skip ?_
 refine K30 _ _ ?_
 refine wp_region_list ?_
 refine wpT_val rfl (ex_move rfl) ?_
 refine wpT_val (v:=.agg #[pt b25,x26,x27,pt b28]) rfl (ex_load_row 203 _ rfl (by exact E6_5) B29 Tryz.underlying203 rfl (by kernel_rfl)) ?_
 refine wpT_bs1 (e:=203) 4 (cs:=#[pt b25,x26,x27,pt b28]) rfl rfl rfl rfl (by kernel_rfl) (by kernel_rfl) (by decide) (by decide) rfl fun b33 w32 A33 B33 ow32=>?_
 have N1_33:=Nat.ne_of_lt (Nat.lt_of_lt_of_le (lt_of B1) A33)
 have N11_33:=Nat.ne_of_lt (Nat.lt_of_lt_of_le (lt_of B11) A33)
 have N29_33:=Nat.ne_of_lt (Nat.lt_of_lt_of_le (lt_of B29) A33)
 replace A33:=Nat.le_trans bel.size A33
 replace B1:=(ow32.block b1 (lt_of B1)).trans B1
 replace B11:=(ow32.block b11 (lt_of B11)).trans B11
 replace B29:=(ow32.block b29 (lt_of B29)).trans B29
 replace F15:=(RatP x.a).grow (Rgn.Below.growS ow32 (Nat.le_refl _) _) F15
 replace F18:=(RatP x.c).grow (Rgn.Below.growS ow32 (Nat.le_refl _) _) F18
 replace F21:=(RatP x.a).grow (Rgn.Below.growS ow32 (Nat.le_refl _) _) F21
 replace F24:=(RatP x.c).grow (Rgn.Below.growS ow32 (Nat.le_refl _) _) F24
 replace F25:=(RatP x.a).grow (Rgn.Below.growS ow32 (Nat.le_refl _) _) F25
 replace F28:=(RatP x.c).grow (Rgn.Below.growS ow32 (Nat.le_refl _) _) F28
 replace F_x16:=(RatN x.b.re).grow (Rgn.Below.growS ow32 (Nat.le_refl _) _) F_x16
 replace F_x17:=(RatN x.b.im).grow (Rgn.Below.growS ow32 (Nat.le_refl _) _) F_x17
 replace F_x22:=(RatN x.b.re).grow (Rgn.Below.growS ow32 (Nat.le_refl _) _) F_x22
 replace F_x23:=(RatN x.b.im).grow (Rgn.Below.growS ow32 (Nat.le_refl _) _) F_x23
 replace F_x26:=(RatN x.b.re).grow (Rgn.Below.growS ow32 (Nat.le_refl _) _) F_x26
 replace F_x27:=(RatN x.b.im).grow (Rgn.Below.growS ow32 (Nat.le_refl _) _) F_x27
 replace bel:=bel.trans (ow32.mono bel.size)
 refine wpT_apR (n₀:=W.heap.size) 32 rfl rfl (by exact E2_0) rfl (World.ownsRow_nil _ _ _ _) B33 rfl (VP1.ratn F_x26) (VP1.ratn F_x27) rfl bel.size (by decide) (by kernel_rfl) (by kernel_rfl) (by decide) rfl fun v34 w35 O_v34 ow35 gw35=>?_
 replace F15:=(RatP x.a).grow (gw35 _) F15
 replace F18:=(RatP x.c).grow (gw35 _) F18
 replace F21:=(RatP x.a).grow (gw35 _) F21
 replace F24:=(RatP x.c).grow (gw35 _) F24
 replace F25:=(RatP x.a).grow (gw35 _) F25
 replace F28:=(RatP x.c).grow (gw35 _) F28
 replace F_x16:=(RatN x.b.re).grow (gw35 _) F_x16
 replace F_x17:=(RatN x.b.im).grow (gw35 _) F_x17
 replace F_x22:=(RatN x.b.re).grow (gw35 _) F_x22
 replace F_x23:=(RatN x.b.im).grow (gw35 _) F_x23
 replace F_x26:=(RatN x.b.re).grow (gw35 _) F_x26
 replace F_x27:=(RatN x.b.im).grow (gw35 _) F_x27
 replace B1:=(ow35.block _ X1).trans B1
 replace bel:=bel.trans ow35
 refine wpList_as (fr (.slice (some ⟨b1,0,none⟩) 2 2::U::u1 0::u1 1::u2 0::U::u5 2::u6 5::u6 7::sq u3 0 3 (u4 0::u5 0::u5 1::u6 2::u6 0::u6 1::u6 3::u6 4::u7 0::u7 1::u2 0::.agg #[pt b25,x26,x27,pt b28]::.slice (some ⟨b33,0,none⟩) 1 1::v34::us 5))) (by kernel_rfl) ?_
 refine wpT_val rfl (ex_assign rfl) ?_
 refine wpList_as (fr (.slice (some ⟨b1,0,none⟩) 2 2::U::u1 0::u1 1::v34::U::u5 2::u6 5::u6 7::sq u3 0 3 (u4 0::u5 0::u5 1::u6 2::u6 0::u6 1::u6 3::u6 4::u7 0::u7 1::u2 0::.agg #[pt b25,x26,x27,pt b28]::.slice (some ⟨b33,0,none⟩) 1 1::v34::us 5))) (by kernel_rfl) ?_
 refine wpList_nil ?_
 show _
 refine inBlock_normal ?_
 refine K9 _ _ ?_
 refine wp_region_list ?_
 refine wpT_val (v:=.int .i64 1) rfl (by have aw_:IntKind.wrap .i64 1 = 1:=(by decide); have:=E3_2; go_simp) ?_
 refine wpT_val rfl (ex_move rfl) ?_
 refine wpList_as (fr (.slice (some ⟨b1,0,none⟩) 2 2::U::u1 0::u1 1::v34::U::u5 2::u6 5::u6 7::u3 0::u3 1::.int .i64 1::u4 0::u5 0::u5 1::u6 2::u6 0::u6 1::u6 3::u6 4::u7 0::u7 1::u2 0::.agg #[pt b25,x26,x27,pt b28]::.slice (some ⟨b33,0,none⟩) 1 1::v34::.int .i64 1::us 4)) (by kernel_rfl) ?_
 refine wpList_nil ?_
 show _
 refine hK6 _ _ ?_
 refine rounds_k fun K36 hK36=>?_
 refine gs 1 (Amb Z0 W) fun _ K37=>?_
 refine .e rfl (V:=.bool true) (fun H=>x_cmp (H.v 11 (.int .i64 1)) (H.z 10 E3_1)) ?_
 refine .dk (fun u=>.slice (some ⟨b1,0,none⟩) 2 2::U::u1 0::u1 1::v34::U::u5 2::u6 5::u6 7::u3 0::u3 1::.int .i64 1::u 0::u5 0::u5 1::u6 2::u6 0::u6 1::u6 3::u6 4::u7 0::u7 1::u2 0::.agg #[pt b25,x26,x27,pt b28]::.slice (some ⟨b33,0,none⟩) 1 1::v34::.int .i64 1::us 4) K37 bel fun u10 w10 D bel=>?_
 have E10_0:=D.q 0
 replace B1:=D.k B1
 replace F15:=D.o L15 F15
 replace F18:=D.o L18 F18
 replace F21:=D.o L21 F21
 replace F24:=D.o L24 F24
 replace F25:=D.o L25 F25
 replace F28:=D.o L28 F28
 replace O_v34:=own_low O_v34 (D.d.base.bel0 (RowKit.Below.refl _ _) (Nat.le_refl _))
 replace F_x16:=D.gr (RatN x.b.re) F_x16
 replace F_x17:=D.gr (RatN x.b.im) F_x17
 replace F_x22:=D.gr (RatN x.b.re) F_x22
 replace F_x23:=D.gr (RatN x.b.im) F_x23
 replace F_x26:=D.gr (RatN x.b.re) F_x26
 replace F_x27:=D.gr (RatN x.b.im) F_x27
 clear D
 refine wp_seq_k fun _ K38=>?_
 refine wp_cond_true (by exact E10_0) ?_
 refine wp_skip ?_
 refine K38 _ _ ?_
 refine wp_seq_k fun _ K39=>?_
 refine wp_block ?_
 refine gs 4 (Amb Z0 W) fun _ K40=>?_
 refine .e rfl (V:=.pointer (some ⟨b1,16,none⟩)) (fun H=>x_ixs 16 (H.z 9 E3_0) (H.v 11 (.int .i64 1))) ?_
 refine .lp rfl 0 (rciC q) B1 ?_
 refine .al rfl zCi ?_
 refine .so rfl 2 (fun H=>⟨H.r 6 2,H.g 14 1⟩) ?_
 refine .dk (fun u=>.slice (some ⟨b1,0,none⟩) 2 2::U::u1 0::u1 1::v34::U::u 2::u6 5::u6 7::u3 0::u3 1::.int .i64 1::u10 0::u 0::u 1::u6 2::u6 0::u6 1::u6 3::u6 4::u7 0::u7 1::u2 0::.agg #[pt b25,x26,x27,pt b28]::.slice (some ⟨b33,0,none⟩) 1 1::v34::.int .i64 1::us 4) K40 bel fun u11 w11 D bel=>?_
 obtain ⟨b41,E11_2,A41,B41⟩:=D.st 3
 have E11_0:=D.q 0
 have E11_1:=D.q 1
 replace B1:=D.k B1
 replace F15:=D.o L15 F15
 replace F18:=D.o L18 F18
 replace F21:=D.o L21 F21
 replace F24:=D.o L24 F24
 replace F25:=D.o L25 F25
 replace F28:=D.o L28 F28
 replace O_v34:=own_low O_v34 (D.d.base.bel0 (RowKit.Below.refl _ _) (Nat.le_refl _))
 replace F_x16:=D.gr (RatN x.b.re) F_x16
 replace F_x17:=D.gr (RatN x.b.im) F_x17
 replace F_x22:=D.gr (RatN x.b.re) F_x22
 replace F_x23:=D.gr (RatN x.b.im) F_x23
 replace F_x26:=D.gr (RatN x.b.re) F_x26
 replace F_x27:=D.gr (RatN x.b.im) F_x27
 clear D
 refine gs 8 (Amb Z0 W) fun _ K42=>?_
 refine .lr rfl 6 E11_2 B41 ?_
 refine .cR rfl [] Tryz.func155 (fun H=>⟨_,ar1 (H.g 16 0),eWheelN _ (by first | omega | assumption)⟩) ?_
 refine .mn rfl 1 [1] ?_
 refine Go2.fn (i:=3) rfl (G0 rfl) (.val 3 [1,2] (RingJ 0)) (fun u μ ρ H=>by have e15:=H.r 15 2; have h0:=(H.a 2 rfl); obtain ⟨x0,x1,h1,h2⟩:=h0; rw [h1] at e15; exact ⟨x0,by clear H; go_simp,SP.tupKeep (by decide) (by decide) h2.1⟩) ?_
 refine .e rfl (V:=.bool false) (fun H=>by have e15:=H.r 15 2; have h0:=(H.a 2 rfl); obtain ⟨x0,x1,h1,h2,h3⟩:=h0; rw [h1] at e15; have h3:x1 = .bool false:=h3; subst h3; clear H; go_simp) ?_
 refine .al rfl (#[.pointer none,.pointer none,.pointer none,.pointer none]) ?_
 refine Go2.storeOwn (i:=6) (m:=5) rfl rfl (.head _) (SP.cells 5 [3] (fun u=>#[((u 3).v.cells.getD 0 undef),((u 3).v.cells.getD 1 undef),((u 3).v.cells.getD 2 undef),((u 3).v.cells.getD 3 undef)]) 203 (by intro u u' h; simp [h 3 (by simp)])) (fun u μ ρ b H h0 hB hb=>?_) ?_
 · have e7:=H.r 7 5; have e18:=H.r 18 3
   rw [h0] at e7
   obtain ⟨x1,x2,x3,x4,h1,h2,h3,h4,h5⟩:=(H.a 3 rfl)
   have o1:=VP1.ptr h2
   have o2:=VP1.ptr h3
   have o3:=VP1.ptr h4
   have o4:=VP1.ptr h5
   rw [h1] at e18
   refine ⟨μ.setRow b #[x1,x2,x3,x4],ex_store_row 203 _ _ rfl e7 e18 hb (by kernel_rfl) rfl (by simp [o1,o2,o3,o4] <;> rfl),fun g=>⟨b,?_,hB,?_⟩,setRow_only _ _ _⟩
   · rw [upd_other _ _ (by decide)]; exact h0
   · rw [setRow_at hb]; try simp [upd,h1,Value.cells]
 refine .mv rfl 4 ?_
 refine .dk (fun u=>.slice (some ⟨b1,0,none⟩) 2 2::U::u1 0::u1 1::v34::U::u11 2::u 5::u 7::u3 0::u3 1::.int .i64 1::u10 0::u11 0::u11 1::u 2::u 0::u 1::u 3::u 4::u7 0::u7 1::u2 0::.agg #[pt b25,x26,x27,pt b28]::.slice (some ⟨b33,0,none⟩) 1 1::v34::.int .i64 1::us 4) K42 bel fun u12 w12 D bel=>?_
 obtain ⟨x43,x44,E12_1,F_x43,F_x44⟩:=(D.rr 1)
 obtain ⟨x45,x46,x47,x48,rfl,F_x45,F_x46,F_x47,F_x48⟩:=F_x43
 obtain rfl:x44 = _:=F_x44
 obtain ⟨x49,x50,E12_2,F_x49,F_x50⟩:=(D.rr 2)
 obtain ⟨x51,x52,x53,x54,rfl,F_x51,F_x52,F_x53,F_x54⟩:=F_x49
 obtain rfl:x50 = _:=F_x50
 obtain ⟨x55,x56,x57,x58,E12_3,F_x55,F_x56,F_x57,F_x58⟩:=(D.rr 3)
 obtain ⟨b59,E12_5,A59,B59⟩:=(D.a 6 rfl)
 replace A59:=le2 D.le A59
 have E12_0:=D.q 0
 have E12_4:=D.q 4
 have E12_7:=D.q 7
 replace B1:=D.k B1
 replace B41:=D.k B41
 simp only [Value.cells,E12_1,E12_2,E12_3,E12_5] at B59
 replace B59:w12.heap[b59]? = some (.cells #[x55,x56,x57,x58] 203 (0,0)):=B59
 replace F25:=D.o L25 F25
 replace F28:=D.o L28 F28
 replace O_v34:=own_low O_v34 (D.d.base.bel0 (RowKit.Below.refl _ _) (Nat.le_refl _))
 replace F_x26:=D.gr (RatN x.b.re) F_x26
 replace F_x27:=D.gr (RatN x.b.im) F_x27
 clear D
 refine wp_seq_k fun _ K60=>?_
 refine gs 2 (Amb Z0 W) fun _ K61=>?_
 refine .mz rfl 8 E12_7 ?_
 refine .e rfl (V:=.bool true) (fun H=>x_not (H.g 20 0)) ?_
 refine .dk (fun u=>.slice (some ⟨b1,0,none⟩) 2 2::U::u1 0::u1 1::v34::U::u11 2::u12 5::u12 7::u3 0::u3 1::.int .i64 1::u10 0::u11 0::u11 1::u12 2::u12 0::u12 1::u12 3::u12 4::u 0::u 1::u2 0::.agg #[pt b25,x26,x27,pt b28]::.slice (some ⟨b33,0,none⟩) 1 1::v34::.int .i64 1::us 4) K61 bel fun u13 w13 D bel=>?_
 have E13_0:=D.q 0
 have E13_1:=D.q 1
 replace B1:=D.k B1
 replace B41:=D.k B41
 replace B59:=D.k B59
 replace F25:=D.o L25 F25
 replace F28:=D.o L28 F28
 replace O_v34:=own_low O_v34 (D.d.base.bel0 (RowKit.Below.refl _ _) (Nat.le_refl _))
 replace F_x26:=D.gr (RatN x.b.re) F_x26
 replace F_x27:=D.gr (RatN x.b.im) F_x27
 replace F_x45:=D.gr (PtrP 0) F_x45
 replace F_x46:=D.gr (PtrP 0) F_x46
 replace F_x47:=D.gr (PtrP 0) F_x47
 replace F_x48:=D.gr (PtrP 0) F_x48
 replace F_x51:=D.gr (PtrP 0) F_x51
 replace F_x52:=D.gr (PtrP 0) F_x52
 replace F_x53:=D.gr (PtrP 0) F_x53
 replace F_x54:=D.gr (PtrP 0) F_x54
 replace F_x55:=D.gr (PtrP 0) F_x55
 replace F_x56:=D.gr (PtrP 0) F_x56
 replace F_x57:=D.gr (PtrP 0) F_x57
 replace F_x58:=D.gr (PtrP 0) F_x58
 clear D
 refine wp_cond_true (by exact E13_1) ?_
 refine gs 2 (Amb Z0 W) fun _ K62=>?_
 refine .mc rfl ?_
 refine .mc rfl ?_
 refine .dk (fun u=>.slice (some ⟨b1,0,none⟩) 2 2::U::u 0::u 1::v34::U::u11 2::u12 5::u12 7::u3 0::u3 1::.int .i64 1::u10 0::u11 0::u11 1::u12 2::u12 0::u12 1::u12 3::u12 4::u13 0::u13 1::u2 0::.agg #[pt b25,x26,x27,pt b28]::.slice (some ⟨b33,0,none⟩) 1 1::v34::.int .i64 1::us 4) K62 bel fun u14 w14 D bel=>?_
 have E14_0:=D.q 0
 have E14_1:=D.q 1
 replace O_v34:=own_low O_v34 (D.d.base.bel0 (RowKit.Below.refl _ _) (Nat.le_refl _))
 clear D
 refine wp_ret ?_
 refine ret_ok rfl (by exact results_two rfl (by exact E14_0) (by exact E14_1)) (RetV.mk ?_ bel)
 exact congrArg Ending.returned (rfl)
end Go.Proofs.YtcpjdjnaipbieaaGreat
namespace Go.Proofs.YtcpjdjnaipbieaaGreat
open Go.RowKit Rgn
@[reducible] def Exc (b:Nat) (φ:VP):VP:=⟨fun S v w=>φ.p (fun k=>S k ∧ k ≠ b) v w,fun hS h=>φ.mono (fun k hk h=>⟨hS k hk h.1,h.2⟩) h,fun {S v w w'} hg h =>
 φ.grow ⟨hg.os,hg.tape,hg.output,hg.size,fun k hk=>(hg.block k hk).imp id (fun h=>h.imp id (fun h=>⟨h.1,fun hS=>h.2 hS.1⟩))⟩ h⟩
@[reducible] def Lss (n:Nat) (φ:VP):VP:=⟨fun S v w=>φ.p (fun k=>S k ∧ k < n) v w,fun hS h=>φ.mono (fun k hk h=>⟨hS k hk h.1,h.2⟩) h,fun {S v w w'} hg h =>
 φ.grow ⟨hg.os,hg.tape,hg.output,hg.size,fun k hk=>(hg.block k hk).imp id (fun h=>h.imp id (fun h=>⟨h.1,fun hS=>h.2 hS.1⟩))⟩ h⟩
theorem Lss.of (φ:VP) {S:Nat → Prop} {v:Value} {w:World} (h:φ.p S v w):(Lss w.heap.size φ).p S v w:=VP.inS φ (Nat.le_refl _) h
theorem Exc.of {n b:Nat} (φ:VP) {S:Nat → Prop} {v:Value} {w:World} (hn:∀ k,k < n → k ≠ b) (h:(Lss n φ).p S v w):(Exc b φ).p S v w:=φ.mono (fun k _ h=>⟨h.1,hn k h.2⟩) h
end Go.Proofs.YtcpjdjnaipbieaaGreat
namespace Go.Proofs.YtcpjdjnaipbieaaGreat
open Go.RowKit Rgn Eng
set_option maxHeartbeats 8000000
set_option maxRecDepth 100000
variable {S:Nat → Prop} {W:World}
theorem ivProd {v0 v1:Value} (c:Ci) (d:Ci) (t0:(RingP c).p S v0 W) (t1:(RingP d).p S v1 W) (p0:ht c.a + ht c.b.re + ht c.b.im + ht c.c + (ht d.a + ht d.b.re + ht d.b.im + ht d.c) ≤ 67108864):Calls Tryz.prog 161 #[v0,v1] W (Ret (RatP (c.dot d)) S W):=by
 have z2:ht (Rat.divInt (1:Int) (2:Int)) = 3:=by decide
 have h1:=ht_mul c.a d.c
 have h2:=ht_mul d.a c.c
 have h3:=hc_conj d.b
 have h4:=hc_mul c.b d.b.conj
 have h5:=ht_add (c.a * d.c) (d.a * c.c)
 have h6:=ht_mul (c.a * d.c + d.a * c.c) (Rat.divInt (1:Int) (2:Int))
 refine Run.goP (S:=S) ((Pack.nil.s spRing t0).s spRing t1) Tryz.func161 rfl ?_
 refine Run.dr ?_
 refine RunD.cO 3 softRat (fun _ _ _ H=>qMul c.a d.c (RatP.blk (H.oz 3)) (anyV (H.f 0)) (anyV (H.f 7)) (by first | omega | (dsimp only at *; omega))) ?_
 refine RunD.cO 4 softRat (fun _ _ _ H=>qMul d.a c.c (RatP.blk (H.oz 4)) (anyV (H.f 4)) (anyV (H.f 3)) (by first | omega | (dsimp only at *; omega))) ?_
 refine RunD.cO 2 softRat (fun _ _ _ H=>qAdd (c.a * d.c) (d.a * c.c) (RatP.blk (H.oz 2)) (anyV (H.o 3)) (anyV (H.o 4)) (by first | omega | (dsimp only at *; omega))) ?_
 refine RunD.en ?_
 refine Run.dr ?_
 refine RunD.cR spNum (fun _ _ _ H=>eConj d.b (NumP.mk (H.f 5) (H.f 6)) (by first | omega | (dsimp only at *; omega))) ?_
 refine RunD.cR spNum (fun _ _ _ H=>eNMul c.b d.b.conj (NumP.mk (H.f 1) (H.f 2)) (NumP.mk (H.f 11) (H.f 12)) (by first | omega | (dsimp only at *; omega))) ?_
 refine RunD.cR sp2Rat (fun _ _ _ H=>eParts (c.b.mul d.b.conj) (NumP.mk (H.f 13) (H.f 14))) ?_
 refine RunD.en ?_
 refine Run.cR spRat (fun _ _ _ H=>qNewRat 1 2 (by decide) (by decide) (by decide) (by decide) (by decide)) ?_
 refine Run.cO 2 softRat (fun _ _ _ H=>qMul ((c.a * d.c) + (d.a * c.c)) (Rat.divInt 1 2) (RatP.blk (q:=(c.a * d.c) + (d.a * c.c)) (H.o 2)) (anyV (H.o 2)) (anyV (H.f 17)) (by first | omega | (dsimp only at *; omega))) ?_
 refine Run.cO 2 softRat (fun _ _ _ H=>qSub (((c.a * d.c) + (d.a * c.c)) * (Rat.divInt 1 2)) ((c.b.mul d.b.conj).re) (RatP.blk (q:=((c.a * d.c) + (d.a * c.c)) * (Rat.divInt 1 2)) (H.o 2)) (anyV (H.o 2)) (anyV (H.f 15)) (by first | omega | (dsimp only at *; omega))) ?_
 exact Run.rR (fun _ _ _ H=>H.s 2)
end Go.Proofs.YtcpjdjnaipbieaaGreat
