import Derived.Test.YtcpjdjnaipbieaaGreatP05
set_option linter.unusedVariables false
set_option linter.unusedSimpArgs false
namespace Go.Proofs.YtcpjdjnaipbieaaGreat.Eng
open Go.RowKit Rgn
section
variable {P:Program} {S:Nat → Prop} {W:World} {ops:Array Oper} {m:MS} {κ0 κ:List Value} {Φ0 Φ:List VP} {pl:List PE} {L:Nat → Bool} {E E' E0:Env} {a0:Act} {u:Nat → Got} {w w' : World} {i:Nat} {e:PE} {o:Oper}
def ins (i:Nat) (L:Nat → Bool):Nat → Bool:=fun j=>j == i || L j
theorem ins_ne {j:Nat} (h:j ≠ i):ins i L j = L j:=by unfold ins; simp [h]
theorem ins_eq:ins i L i = true:=by unfold ins; simp
structure Ist (S:Nat → Prop) (W:World) (ops:Array Oper) (m:MS) (κ:List Value) (Φ:List VP) (pl:List PE) (E0:Env) (a0:Act) (L:Nat → Bool) (u:Nat → Got) (w:World) (E:Env):Prop where
 same:Same m.bl.length m.nk m.nv E0 E
 inv:InvD S W κ Φ E (blkL m pl L) (visL m pl L) w
 off:∀ j,L j = false → u j = Rgn.start ops a0 j
 on:∀ j e,nth pl j = some e → L j = true → (u j).v = e.val.d E
structure Closed (ops:Array Oper) (L:Nat → Bool) (i:Nat):Prop where
 out:L i = false
 pre:∀ j,j < ops.size → Rgn.pre ops i j = true → L j = true
 cl:∀ p q,p < ops.size → q < ops.size → L p = true → Rgn.pre ops p q = true → L q = true
variable (H:PlanOk ops m pl)
include H
theorem PlanOk.lt (he:nth pl i = some e):i < ops.size:=by rw [← H.len]; exact nth_lt he
theorem PlanOk.tlen (he:nth pl i = some e):(pl.take i).length = i:=by have _h:=H; rw [List.length_take]; have:=nth_lt he; omega
theorem PlanOk.valL (hcl:∀ p q,p < ops.size → q < ops.size → L p = true → Rgn.pre ops p q = true → L q = true) {j:Nat} {e:PE} (he:nth pl j = some e) (hL:L j = true) (hlt:∀ q,Rgn.pre ops j q = true → q < ops.size):e.val.inL m pl L = true :=
 SV.mono (fun q hq=>by
  rw [Bool.or_eq_true] at hq
  rcases hq with hq | hq
  ·exact hcl j q (H.lt he) (hlt q hq) hL hq
  ·have:=Nat.eq_of_beq_eq_true hq; subst this; exact hL) (H.val he)
theorem PlanOk.preL {j:Nat} (hcl:∀ p q,p < ops.size → q < ops.size → L p = true → Rgn.pre ops p q = true → L q = true) (hj:j < ops.size) (hL:L j = true) (hlt:∀ q,Rgn.pre ops j q = true → q < ops.size) {l:List At} (h:l.all (At.inL m pl (Rgn.pre ops j)) = true):l.all (At.inL m pl L) = true :=
 have _h:=H
 At.monoL (fun q hq=>hcl j q hj (hlt q hq) hL hq) h
omit H in
theorem okB_inL {nk:Nat} {a:At} (h:a.okB m.bl.length m.nk m.nv = true):a.inL m pl L = true:=by
 cases a with
 | v n =>
  show (Nat.blt n m.nv || _) = true
  have h:Nat.blt n m.nv = true:=h
  rw [h]; rfl
 | k n =>
  have h:Nat.blt n m.nk = true:=h
  show Nat.blt n (m.nk + nK pl) = true
  rw [Nat.blt_eq] at h ⊢; omega
 | c x=>rfl
 | p b off =>
  have h:Nat.blt b m.bl.length = true:=h
  show (Nat.blt b m.bl.length || _) = true
  rw [h]; rfl
 | sl b off n c =>
  have h:Nat.blt b m.bl.length = true:=h
  show (Nat.blt b m.bl.length || _) = true
  rw [h]; rfl
theorem PlanOk.blkIn (hcl:∀ p q,p < ops.size → q < ops.size → L p = true → Rgn.pre ops p q = true → L q = true) (hlt:∀ j q,j < ops.size → Rgn.pre ops j q = true → q < ops.size) {b:Nat} {k:Blk} (h:blkL m pl L b = some k):k.cells.all (At.inL m pl L) = true:=by
 have hst:∀ j cells,stAt b 0 pl = some (j,cells) → L j = true → cells.all (At.inL m pl L) = true:=by
  intro j cells h1 h2
  obtain ⟨_,v,rd,h3⟩:=stAt_at b _ 0 j cells h1
  rw [Nat.sub_zero] at h3
  exact H.preL hcl (H.lt h3) h2 (fun q=>hlt j q (H.lt h3)) (H.st h3).1
 have key:∀ k0,k0.cells.all (At.inL m pl L) = true → (match stAt b 0 pl with | some (j,cells)=>if L j then some (⟨k0.ty,cells,true⟩:Blk) else some k0 | none=>some k0) = some k → k.cells.all (At.inL m pl L) = true:=by
  intro k0 h0 h
  split at h
  ·rename_i j cells hs
   split at h
   ·rename_i hl; cases h; exact hst j cells hs hl
   ·cases h; exact h0
  ·cases h; exact h0
 unfold blkL at h
 by_cases hb:Nat.blt b m.bl.length = true
 ·rw [if_pos hb] at h
  cases h0:nth m.bl b with
  | none=>rw [h0] at h; cases h
  | some k0 =>
   rw [h0] at h
   refine key k0 ?_ h
   have hok:=H.ok
   simp only [MS.okB,Bool.and_eq_true] at hok
   have h1:=List.all_eq_true.1 hok.2 k0 (nth_mem h0)
   exact List.all_eq_true.2 fun a ha=>okB_inL (nk:=0) (List.all_eq_true.1 h1 a ha)
 ·rw [if_neg hb] at h
  cases h0:alAt (b - m.bl.length) 0 pl with
  | none=>rw [h0] at h; cases h
  | some x =>
   obtain ⟨j,k0⟩:=x
   rw [h0] at h
   simp only at h
   by_cases hl:L j = true
   ·rw [if_pos hl] at h
    refine key k0 ?_ h
    obtain ⟨_,_,v,row,rd,h3,_⟩:=alAt_at _ _ 0 j k0 h0
    rw [Nat.sub_zero] at h3
    exact H.preL hcl (H.lt h3) hl (fun q=>hlt j q (H.lt h3)) (H.al h3)
   ·rw [if_neg hl] at h; cases h
theorem PlanOk.inb (A:AgF E0 m.fr a0):inB ops a0 = true:=by
 unfold inB
 refine List.all_eq_true.2 fun j hj=>?_
 have hj:=List.mem_range.1 hj
 cases hd:dstOf ops j with
 | none=>rfl
 | some d=>simp only [decide_eq_true_eq]; rw [A.sz]; exact H.dst j d hj hd
theorem PlanOk.env (A:AgF E0 m.fr a0):Rgn.Env ops a0 u (fill ops u ops.size a0).eval:=env_fill H.apart u a0 (H.inb A)
omit H in
theorem dst_of {t j:Nat} (h:dstIdx ops t = some j):j < ops.size ∧ dstOf ops j = some t:=by
 have h1:=List.find?_some h
 have h2:=List.mem_range.1 (List.mem_of_find?_eq_some h)
 exact ⟨h2,by simpa using h1⟩
theorem PlanOk.eo (A:AgF E0 m.fr a0) (I:Ist S W ops m κ Φ pl E0 a0 L u w E) (C:Closed ops L i) (hi:i < ops.size) {x:Operand} {v:SV} (h:eoD ops m (pl.take i) i x = some v):(fill ops u ops.size a0).eval x = v.d E:=by
 have hA:AgF E m.fr a0:=A.same I.same (by have:=H.ok; simp only [MS.okB,Bool.and_eq_true] at this; exact this.1)
 cases x with
 | tmp t =>
  rw [(H.env A).tmp t]
  have h:(match dstIdx ops t with | some j=>if Rgn.pre ops i j then (nth (pl.take i) j).map PE.val else if Rgn.pre ops j i then eoF m.fr (.tmp t) else none | none=>eoF m.fr (.tmp t)) = some v:=h
  unfold slot
  cases hd:dstIdx ops t with
  | none=>rw [hd] at h; exact eval_eo hA (.tmp t) v h
  | some j =>
   rw [hd] at h
   simp only at h ⊢
   obtain ⟨hj,hdst⟩:=dst_of hd
   by_cases hp:Rgn.pre ops i j = true
   ·rw [if_pos hp] at h
    cases he:nth (pl.take i) j with
    | none=>rw [he] at h; cases h
    | some e =>
     rw [he] at h; cases h
     exact I.on j e (nth_take he) (C.pre j hj hp)
   ·rw [if_neg hp] at h
    by_cases hq:Rgn.pre ops j i = true
    ·rw [if_pos hq] at h
     have hLj:L j = false:=by
      cases hl:L j with
      | false=>rfl
      | true=>have:=C.cl j i hj hi hl hq; rw [C.out] at this; cases this
     rw [I.off j hLj]
     show (match dstOf ops j with | some d=>a0.tmps.getD d undef | none=>undef) = _
     rw [hdst]
     exact eval_eo hA (.tmp t) v h
    ·rw [if_neg hq] at h; cases h
 | const c=>exact eval_eo hA (.const c) v h
 | global g=>exact eval_eo hA (.global g) v h
 | func f=>exact eval_eo hA (.func f) v h
theorem PlanOk.want (A:AgF E0 m.fr a0) (I:Ist S W ops m κ Φ pl E0 a0 L u w E) (C:Closed ops L i) (ho:ops[i]? = some o) {b:Bool} (h:wantD ops (pl.take i) i o = some b):Region.wanted o (yielded ops (fill ops u ops.size a0).tmps) = b:=by
 unfold wantD at h
 unfold Region.wanted
 split at h
 ·rename_i hg; cases h; rw [hg]
 ·rename_i q wt hg
  rw [hg]
  have key:∀ r,slotD ops (pl.take i) i q = some r → yielded ops (fill ops u ops.size a0).tmps q = r:=fun r hs=>by
   unfold slotD at hs
   split at hs
   ·rename_i hp
    simp only [Bool.and_eq_true] at hp
    obtain ⟨hp,hd⟩:=hp
    split at hs
    ·rename_i e he
     split at hs
     ·rename_i v hv
      obtain ⟨d,hd⟩:=Option.isSome_iff_exists.1 hd
      have hq:q < ops.size:=H.lt (nth_take he)
      have hon:=I.on q e (nth_take he) (C.pre q hq hp)
      rw [hv] at hon
      have hon:(u q).v = v:=hon
      have hdst:dstOf ops q = some d:=hd
      have hf:=fill_some H.apart u a0 (H.inb A) d q hdst hq ops.size hq (Nat.le_refl _)
      have hlt:d < (fill ops u ops.size a0).tmps.size:=by rw [fill_size,A.sz]; exact H.dst q d hq hdst
      unfold yielded
      rw [hd]
      show (match (fill ops u ops.size a0).tmps[d]? with | some (.bool b)=>some b | _=>none) = r
      rw [Array.getD_eq_getD_getElem?,Array.getElem?_eq_getElem hlt] at hf
      rw [Array.getElem?_eq_getElem hlt]
      have hf:(fill ops u ops.size a0).tmps[d] = v:=hf.trans hon
      rw [hf]
      split at hs
      ·cases hs; rfl
      ·rename_i hnb
       cases hs
       split
       ·rename_i b hb; cases hb; exact absurd rfl (hnb b)
       ·rfl
     ·cases hs
    ·cases hs
   ·cases hs
  split at h
  ·rename_i c hs
   cases h
   show (yielded ops _ q == some wt) = _
   rw [key _ hs]; simp
  ·rename_i hs
   cases h
   show (yielded ops _ q == some wt) = _
   rw [key _ hs]; rfl
  ·cases h
theorem PlanOk.sees (A:AgF E0 m.fr a0) (I:Ist S W ops m κ Φ pl E0 a0 L u w E) (C:Closed ops L i) {r:SV} {ef:Eff} {oo:Op} (he:nth pl i = some (.ev r ef (rdOf (eoD ops m (pl.take i) i) oo))):Sees E (fill ops u ops.size a0).eval w (sxD ops m (pl.take i) i oo):=by
 refine ⟨fun x v h=>H.eo A I C (H.lt he) h,fun b k h=>?_,I.inv.ol,by rw [I.inv.ek]; exact I.inv.ok⟩
 have h:(match rdOf (eoD ops m (pl.take i) i) oo with | some b' => if Nat.beq b b' then blkL m (pl.take i) (Rgn.pre ops i) b else none | none=>none) = some k:=h
 split at h
 ·rename_i b' hb
  split at h
  ·rename_i hbb
   have hbb:=Nat.eq_of_beq_eq_true hbb
   subst hbb
   refine I.inv.blk b k (H.view he C.out C.pre C.cl ?_ h)
   rw [hb]; exact Nat.beq_refl b
  ·cases h
 ·cases h
theorem PlanOk.upd (I:Ist S W ops m κ Φ pl E0 a0 L u w E) (C:Closed ops L i) (he:nth pl i = some e) (hs:Same m.bl.length m.nk m.nv E0 E') (ag:AgreeL m pl L E E') (hlt:∀ j q,j < ops.size → Rgn.pre ops j q = true → q < ops.size)
  (inv:InvD S W κ Φ E' (blkL m pl (ins i L)) (visL m pl (ins i L)) w') {v:Got} (hv:v.v = e.val.d E'):Ist S W ops m κ Φ pl E0 a0 (ins i L) (upd u i v) w' E' := by
 refine ⟨hs,inv,fun j hj=>?_,fun j e' he' hj=>?_⟩
 ·by_cases h:j = i
  ·subst h; rw [ins_eq] at hj; cases hj
  ·rw [ins_ne h] at hj; rw [upd_other u v h]; exact I.off j hj
 ·by_cases h:j = i
  ·subst h
   rw [he] at he'; cases he'
   rw [upd_same]; exact hv
  ·rw [ins_ne h] at hj
   rw [upd_other u v h,I.on j e' he' hj,SV.agree ag (H.valL C.cl he' hj (fun q=>hlt j q (H.lt he')))]
omit H in
theorem blk_ins {b:Nat} (h1:m.bl.length ≤ b → ∀ j k,alAt (b - m.bl.length) 0 pl = some (j,k) → j ≠ i) (h2:∀ j c,stAt b 0 pl = some (j,c) → j ≠ i):blkL m pl (ins i L) b = blkL m pl L b:=by
 unfold blkL
 have e2:∀ k:Blk,(match stAt b 0 pl with | some (j,cells)=>if ins i L j then some (⟨k.ty,cells,true⟩:Blk) else some k | none=>some k) = (match stAt b 0 pl with | some (j,cells)=>if L j then some ⟨k.ty,cells,true⟩ else some k | none=>some k):=by
  intro k
  split
  ·rename_i j cells hs; rw [ins_ne (h2 j cells hs)]
  ·rfl
 by_cases hb:Nat.blt b m.bl.length = true
 ·rw [if_pos hb,if_pos hb]
  cases nth m.bl b with
  | none=>rfl
  | some k=>exact e2 k
 ·rw [if_neg hb,if_neg hb]
  have hb:m.bl.length ≤ b:=Nat.le_of_not_lt fun e=>hb (by rw [Nat.blt_eq]; exact e)
  cases h0:alAt (b - m.bl.length) 0 pl with
  | none=>rfl
  | some x =>
   obtain ⟨j,k⟩:=x
   simp only
   rw [ins_ne (h1 hb j k h0)]
   by_cases hl:L j = true
   ·rw [if_pos hl]; exact e2 k
   ·rw [if_neg hl]
omit H in
theorem vis_ins {n:Nat} (h:m.nv ≤ n → ∀ j,mkV (n - m.nv) 0 pl = some j → j ≠ i):visL m pl (ins i L) n = visL m pl L n:=by
 unfold visL
 by_cases hb:Nat.blt n m.nv = true
 ·rw [hb]; rfl
 ·have hb' : m.nv ≤ n:=Nat.le_of_not_lt fun e=>hb (by rw [Nat.blt_eq]; exact e)
  have hb:Nat.blt n m.nv = false:=by cases e:Nat.blt n m.nv with | false=>rfl | true=>exact absurd e hb
  rw [hb,Bool.false_or,Bool.false_or]
  split
  ·rename_i j hj; rw [ins_ne (h hb' j hj)]
  ·rfl
omit H in
theorem al_not (he:nth pl i = some e) (hn:∀ v ty c row rd,e ≠ .ev v (.al ty c row) rd) {q j:Nat} {k:Blk} (h:alAt q 0 pl = some (j,k)):j ≠ i:=by
 rintro rfl
 obtain ⟨_,_,v,row,rd,h3,_⟩:=alAt_at _ _ 0 j k h
 rw [Nat.sub_zero,he] at h3
 exact hn _ _ _ _ _ (Option.some.inj h3)
omit H in
theorem st_not (he:nth pl i = some e) {b:Nat} (hn:∀ v c rd,e ≠ .ev v (.st b c) rd) {j:Nat} {c:List At} (h:stAt b 0 pl = some (j,c)):j ≠ i:=by
 rintro rfl
 obtain ⟨_,v,rd,h3⟩:=stAt_at b _ 0 j c h
 rw [Nat.sub_zero,he] at h3
 exact hn _ _ _ (Option.some.inj h3)
omit H in
theorem mk_not (he:nth pl i = some e) (hn:∀ v nk nv,e ≠ .ca v nk nv) {q j:Nat} (h:mkV q 0 pl = some j):j ≠ i:=by
 rintro rfl
 obtain ⟨_,v,nk,nv,h3,_⟩:=mkV_at _ _ 0 j h
 rw [Nat.sub_zero,he] at h3
 exact hn _ _ _ (Option.some.inj h3)
omit H in
theorem drop_at (he:nth pl i = some e):pl.drop i = e :: pl.drop (i + 1):=by
 rw [nth_eq] at he
 obtain ⟨h1,h2⟩:=List.getElem?_eq_some_iff.1 he
 rw [List.drop_eq_getElem_cons h1,h2]
theorem PlanOk.alHere {v:SV} {ty:TypeId} {cells:List At} {row rd:Option Nat} (he:nth pl i = some (.ev v (.al ty cells row) rd)):alAt (nAl (pl.take i)) 0 pl = some (i,⟨ty,cells,true⟩):=by
 have h:=alAt_app (pl.take i) (pl.drop i) (nAl (pl.take i)) 0
 rw [List.take_append_drop,if_neg (by omega),Nat.sub_self,drop_at he] at h
 rw [h]
 show some (0 + (pl.take i).length,_) = _
 rw [H.tlen he,Nat.zero_add]
theorem PlanOk.mkHere {v:SV} {nk nv q:Nat} (he:nth pl i = some (.ca v nk nv)) (h1:nV (pl.take i) ≤ q) (h2:q < nV (pl.take i) + nv):mkV q 0 pl = some i:=by
 have h:=mkV_app (pl.take i) (pl.drop i) q 0
 rw [List.take_append_drop,if_neg (by omega),drop_at he] at h
 rw [h]
 show (if Nat.blt (q - nV (pl.take i)) nv then some (0 + (pl.take i).length) else _) = _
 rw [if_pos (by rw [Nat.blt_eq]; omega),H.tlen he,Nat.zero_add]
theorem PlanOk.invSame (I:InvD S W κ Φ E (blkL m pl L) (visL m pl L) w) (he:nth pl i = some e) (h1:∀ v ty c row rd,e ≠ .ev v (.al ty c row) rd) (h2:∀ b v c rd,e ≠ .ev v (.st b c) rd) (h3:∀ v nk nv,e ≠ .ca v nk nv):InvD S W κ Φ E (blkL m pl (ins i L)) (visL m pl (ins i L)) w:=by
 have _h:=H
 have hb:blkL m pl (ins i L) = blkL m pl L:=funext fun b=>blk_ins (fun _ j k h=>al_not he h1 h) (fun j c h=>st_not he (h2 b) h)
 have hv:visL m pl (ins i L) = visL m pl L:=funext fun n=>vis_ins fun _ j h=>mk_not he h3 h
 rw [hb,hv]; exact I
theorem PlanOk.invAl (I:InvD S W κ Φ E (blkL m pl L) (visL m pl L) w) (C:Closed ops L i) (hlt:∀ j q,j < ops.size → Rgn.pre ops j q = true → q < ops.size) {v:SV} {ty:TypeId} {cells:List At} {row rd:Option Nat} (he:nth pl i = some (.ev v (.al ty cells row) rd)) :
  let E' : Env:={ E with β:=fun b=>if b = m.bl.length + nAl (pl.take i) then w.heap.size else E.β b }
  AgreeL m pl L E E' ∧ InvD S W κ Φ E' (blkL m pl (ins i L)) (visL m pl (ins i L)) (w.alloc (.cells ⟨cells.map (At.d E)⟩ ty (0,0))):=by
 intro E'
 have hhere:=H.alHere he
 have hn:E'.β (m.bl.length + nAl (pl.take i)) = w.heap.size:=if_pos rfl
 have ag:AgreeL m pl L E E' := ⟨fun b hb=>(by
  refine if_neg fun e=>?_
  subst e
  rcases hb with hb | ⟨j,k,h1,h2⟩
  ·omega
  ·rw [Nat.add_sub_cancel_left,hhere] at h1
   cases h1
   rw [C.out] at h2; cases h2),rfl,fun _ _=>rfl⟩
 have hcells:cells.all (At.inL m pl L) = true:=At.monoL (fun q hq=>C.pre q (hlt i q (H.lt he) hq) hq) (H.al he)
 have hother:∀ b,b ≠ m.bl.length + nAl (pl.take i) → blkL m pl (ins i L) b = blkL m pl L b:=fun b hb=>blk_ins (fun hle j k h=>by
  rintro rfl
  obtain ⟨_,h2,_⟩:=alAt_at _ _ 0 j k h
  rw [Nat.sub_zero] at h2
  omega) (fun j c h=>st_not he (fun v c rd e=>by cases e) h)
 have hnew:∀ k,blkL m pl (ins i L) (m.bl.length + nAl (pl.take i)) = some k → k = ⟨ty,cells,true⟩:=fun k h=>by
  unfold blkL at h
  rw [if_neg (by rw [Nat.blt_eq]; omega),Nat.add_sub_cancel_left,hhere] at h
  simp only [ins_eq,if_true] at h
  split at h
  ·rename_i j c hs
   split at h
   ·rename_i hl
    exfalso
    obtain ⟨_,v', rd', h3⟩:=stAt_at _ _ 0 j c hs
    rw [Nat.sub_zero] at h3
    have hji:j ≠ i:=st_not he (fun v c rd e=>by cases e) hs
    rw [ins_ne hji] at hl
    rcases (H.st h3).2.1 with h4 | ⟨j', k', h4,h5⟩
    ·omega
    ·rw [Nat.add_sub_cancel_left,hhere] at h4
     cases h4
     have:=C.cl j i (H.lt h3) (H.lt he) hl h5
     rw [C.out] at this; cases this
   ·cases h; rfl
  ·cases h; rfl
 have hvis:visL m pl (ins i L) = visL m pl L:=funext fun n=>vis_ins fun _ j h=>mk_not he (fun v nk nv e=>by cases e) h
 have hβ:∀ b k,blkL m pl L b = some k → b ≠ m.bl.length + nAl (pl.take i) → E'.β b = E.β b:=fun b k h hne=>if_neg hne
 have hlt' : ∀ b k,blkL m pl L b = some k → E.β b < w.heap.size:=fun b k h=>lt_of (I.blk b k h)
 refine ⟨ag,I.ek,?_,?_,?_,?_,?_,I.ol,I.ok,?_⟩
 ·exact I.bel.trans ⟨rfl,rfl,rfl,by simp,fun k hk=>Below.heap_alloc _ _ _ (Nat.lt_of_lt_of_le hk I.bel.size)⟩
 ·intro b k h
  by_cases hb:b = m.bl.length + nAl (pl.take i)
  ·subst hb
   have:=hnew k h
   subst this
   rw [hn]
   show _ = some (Obj.cells ⟨cells.map (At.d E')⟩ ty (0,0))
   rw [At.agreeL ag hcells]
   simp only [World.alloc]
   simp
  ·rw [hother b hb] at h
   rw [hβ b k h hb,Below.heap_alloc _ _ _ (hlt' b k h),I.blk b k h,At.agreeL ag (H.blkIn C.cl hlt h)]
 ·intro b k h ho
  by_cases hb:b = m.bl.length + nAl (pl.take i)
  ·subst hb; rw [hn]; exact I.bel.size
  ·rw [hother b hb] at h; rw [hβ b k h hb]; exact I.own b k h ho
 ·intro b k h ho
  by_cases hb:b = m.bl.length + nAl (pl.take i)
  ·subst hb; have:=hnew k h; subst this; cases ho
  ·rw [hother b hb] at h; rw [hβ b k h hb]; exact I.old b k h ho
 ·intro b c k l h g h1 h2 hne
  by_cases hb:b = m.bl.length + nAl (pl.take i)
  ·subst hb
   have hc:c ≠ m.bl.length + nAl (pl.take i):=fun e=>hne e.symm
   rw [hother c hc] at g
   rw [hn,hβ c l g hc]; exact (Nat.ne_of_lt (hlt' c l g)).symm
  ·rw [hother b hb] at h
   by_cases hc:c = m.bl.length + nAl (pl.take i)
   ·subst hc
    rw [hn,hβ b k h hb]; exact Nat.ne_of_lt (hlt' b k h)
   ·rw [hother c hc] at g
    rw [hβ b k h hb,hβ c l g hc]; exact I.inj b c k l h g h1 h2 hne
 ·intro n φ h hv
  rw [hvis] at hv
  exact φ.grow (GrowS.alloc _ _ _) (I.fac n φ h hv)
theorem PlanOk.invSt (I:InvD S W κ Φ E (blkL m pl L) (visL m pl L) w) (C:Closed ops L i) {v:SV} {b:Nat} {cells:List At} {rd:Option Nat} (he:nth pl i = some (.ev v (.st b cells) rd)) {k:Blk} (hk:blkL m pl L b = some k) (hown:k.own = true) (hl:Rgn.Loc k.ty = true) :
  InvD S W κ Φ E (blkL m pl (ins i L)) (visL m pl (ins i L)) (w.setRow (E.β b) ⟨cells.map (At.d E)⟩):=by
 have hB:=I.blk b k hk
 have hge:=I.own b k hk hown
 have hon:=setRow_only w (E.β b) ⟨cells.map (At.d E)⟩
 have hother:∀ c,c ≠ b → blkL m pl (ins i L) c = blkL m pl L c:=fun c hc=>blk_ins (fun _ j k h=>al_not he (fun _ _ _ _ _ e=>by cases e) h) (fun j c' h=>st_not he (fun v' c'' rd' e=>by cases e; exact hc rfl) h)
 have hst:stAt b 0 pl = some (i,cells):=by
  obtain ⟨⟨j,c⟩,hx⟩:=stAt_some b pl 0 i v cells rd he
  obtain ⟨_,v', rd', h3⟩:=stAt_at b _ 0 j c hx
  rw [Nat.sub_zero] at h3
  by_cases hji:j = i
  ·subst hji; rw [he] at h3; cases h3; exact hx
  ·exact absurd rfl (((H.st he).2.2 j _ h3 hji).2 v' c rd')
 have hnew:∀ k', blkL m pl (ins i L) b = some k' → k' = ⟨k.ty,cells,true⟩:=fun k' h=>by
  unfold blkL at h hk
  rw [hst] at h hk
  simp only [ins_eq,C.out,if_true,Bool.false_eq_true,if_false] at h hk
  have hbase:∀ (x:Option Blk),(match x with | none=>none | some k=>some k) = some k → x = some k:=fun x hx=>by cases x with | none=>cases hx | some y=>exact hx
  by_cases hb:Nat.blt b m.bl.length = true
  ·rw [if_pos hb] at h hk
   rw [hbase _ hk] at h; cases h; rfl
  ·rw [if_neg hb] at h hk
   cases h0:alAt (b - m.bl.length) 0 pl with
   | none=>rw [h0] at h; cases h
   | some x =>
    obtain ⟨j,k0⟩:=x
    rw [h0] at h hk
    have hji:j ≠ i:=al_not he (fun _ _ _ _ _ e=>by cases e) h0
    simp only [ins_ne hji] at h hk
    by_cases hL:L j = true
    ·rw [if_pos hL] at h hk
     cases hk; cases h; rfl
    ·rw [if_neg hL] at h; cases h
 have hvis:visL m pl (ins i L) = visL m pl L:=funext fun n=>vis_ins fun _ j h=>mk_not he (fun v nk nv e=>by cases e) h
 have hlt' : ∀ b k,blkL m pl L b = some k → E.β b < w.heap.size:=fun b k h=>lt_of (I.blk b k h)
 refine ⟨I.ek,?_,?_,?_,?_,?_,I.ol,I.ok,?_⟩
 ·exact I.bel.trans ⟨rfl,rfl,rfl,by simp [World.setRow],fun j hj=>hon.block j (Nat.lt_of_lt_of_le hj I.bel.size) (Nat.ne_of_lt (Nat.lt_of_lt_of_le hj hge))⟩
 ·intro c l h
  by_cases hc:c = b
  ·subst hc; have:=hnew l h; subst this; exact setRow_at hB
  ·rw [hother c hc] at h
   rw [hon.block _ (hlt' c l h) ?_]
   ·exact I.blk c l h
   ·cases e:l.own with
    | true=>exact I.inj c b l k h hk e hown hc
    | false=>exact Nat.ne_of_lt (Nat.lt_of_lt_of_le (I.old c l h e) hge)
 ·intro c l h ho
  by_cases hc:c = b
  ·subst hc; exact hge
  ·rw [hother c hc] at h; exact I.own c l h ho
 ·intro c l h ho
  by_cases hc:c = b
  ·subst hc; have:=hnew l h; subst this; cases ho
  ·rw [hother c hc] at h; exact I.old c l h ho
 ·intro c d l n h g h1 h2 hne
  by_cases hc:c = b
  ·subst hc
   have hd:d ≠ c:=fun e=>hne e.symm
   rw [hother d hd] at g
   exact I.inj c d k n hk g hown h2 hne
  ·rw [hother c hc] at h
   by_cases hd:d = b
   ·subst hd; exact I.inj c d l k h hk h1 hown hne
   ·rw [hother d hd] at g; exact I.inj c d l n h g h1 h2 hne
 ·intro n φ h hv
  rw [hvis] at hv
  refine φ.grow (w:=w) (w' := w.setRow (E.β b) ⟨cells.map (At.d E)⟩) ⟨rfl,rfl,rfl,by simp [World.setRow],fun j hj=>?_⟩ (I.fac n φ h hv)
  by_cases e:j = E.β b
  ·subst e; exact .inr (.inl ⟨_,_,_,hB,hl⟩)
  ·exact .inl (hon.block j hj e)
end
section
variable {P:Program} {S:Nat → Prop} {W:World} {ops:Array Oper} {m:MS} {κ0 κ:List Value} {Φ0 Φ:List VP} {pl:List PE} {L:Nat → Bool} {E E' E0:Env} {a0:Act} {u:Nat → Got} {w w' : World} {i:Nat} {e:PE} {o:Oper} {Q:Exit → Act → World → Prop}
theorem nextD_at {H:PlanOk ops m pl} (he:nth pl i = some e) (ho:ops[i]? = some o) (h:nextD P ops m (pl.take i) = some e) :
  (wantD ops (pl.take i) i o = some false ∧ e = .no) ∨ ∃ r ef,wantD ops (pl.take i) i o = some true ∧ evOp P (sxD ops m (pl.take i) i o.op) o.op = some (r,ef) ∧ e = .ev r ef (rdOf (eoD ops m (pl.take i) i) o.op):=by
 have hlen:=H.tlen he
 unfold nextD at h
 rw [hlen,ho] at h
 simp only at h
 split at h
 ·rename_i hw
  split at h
  ·rename_i r ef hev; cases h; exact .inr ⟨r,ef,hw,hev,rfl⟩
  ·cases h
 ·rename_i hw; cases h; exact .inl ⟨hw,rfl⟩
 ·cases h
theorem evLx_map (eo:Operand → Option SV) (ρ:Operand → Value) (hE:∀ x v,eo x = some v → ρ x = v.d E):∀ (xs:List Operand) (l:List SV),callD.evLx eo xs = some l → xs.map ρ = l.map (SV.d E)
 | [],l,h=>by cases h; rfl
 | x :: xs,l,h=>by
  simp only [callD.evLx] at h
  split at h
  ·rename_i v r hv hr
   cases h
   simp only [List.map_cons,hE x v hv,evLx_map eo ρ hE xs r hr]
  ·cases h
theorem call_at {H:PlanOk ops m pl} (A:AgF E0 m.fr a0) (I:Ist S W ops m κ Φ pl E0 a0 L u w E) (C:Closed ops L i) (he:nth pl i = some e) (ho:ops[i]? = some o) {f:FuncId} {args:List Value} (h:argsD P ops m (pl.take i) E = some (f,args)) :
  Region.wanted o (yielded ops (fill ops u ops.size a0).tmps) = true ∧ (execOp (fill ops u ops.size a0).eval o).run P w = .ok (.enter f ⟨args⟩) w:=by
 have hlen:=H.tlen he
 unfold argsD at h
 cases hq:callD P ops m (pl.take i) with
 | none=>rw [hq] at h; cases h
 | some q =>
  obtain ⟨f', l⟩:=q
  rw [hq] at h
  simp only [Option.map_some,Option.some.injEq,Prod.mk.injEq] at h
  obtain ⟨rfl,h2⟩:=h
  unfold callD at hq
  rw [hlen,ho] at hq
  simp only at hq
  split at hq
  ·rename_i hw
   refine ⟨H.want A I C ho hw,?_⟩
   split at hq
   ·rename_i c hop
    split at hq
    ·rename_i g hcal
     split at hq
     ·rename_i fn hfn
      split at hq
      ·cases hq
      ·rename_i hname
       simp only [Bool.or_eq_true,not_or,Bool.not_eq_true] at hname
       cases hl:callD.evLx (eoD ops m (pl.take i) i) c.args.toList with
       | none=>rw [hl] at hq; cases hq
       | some l' =>
        rw [hl] at hq
        simp only [Option.map_some,Option.some.injEq,Prod.mk.injEq] at hq
        obtain ⟨rfl,rfl⟩:=hq
        obtain ⟨cal,ags,ats⟩:=c
        simp only at hcal hl
        subst hcal
        refine ex_call hop rfl hfn hname.1 hname.2 ?_
        apply Array.toList_inj.1
        rw [Array.toList_map,evLx_map _ _ (fun x v hv=>H.eo A I C (H.lt he) hv) _ _ hl,h2]
     ·cases hq
    ·cases hq
   ·cases hq
  ·cases hq
theorem step_D (H:PlanOk ops m pl) (g:Good P S W ops m κ0 Φ0 pl κ Φ) (hk:m.nk = κ0.length) (hv:m.nv = Φ0.length) (A:AgF E0 m.fr a0) (C:Closed ops L i) (ho:ops[i]? = some o) (I:Ist S W ops m κ Φ pl E0 a0 L u w E) :
  wpOp P ops Q i (fun a' w' => ∃ v:Got,a' = (fill ops u ops.size a0).put o.dst v.v ∧ ∃ E', Ist S W ops m κ Φ pl E0 a0 (ins i L) (upd u i v) w' E') (fill ops u ops.size a0) w:=by
 have hi:i < ops.size:=(Array.getElem?_eq_some_iff.1 ho).1
 obtain ⟨e,he⟩:=nth_some_of_lt (l:=pl) (i:=i) (by rw [H.len]; exact hi)
 unfold wpOp
 rw [ho]
 simp only
 rcases g.at_ i e he with hn | ⟨r,κi,κs,more,Φi,φs,more', rfl,e2,e3,e4,e5,e6,e7⟩ | ⟨r,κi,κs,more,Φi,more', rfl,e2,e3,e4,e5⟩
 ·rcases nextD_at (H:=H) he ho hn with ⟨hw,rfl⟩ | ⟨r,ef,hw,hev,rfl⟩
  ·rw [if_neg (by rw [H.want A I C ho hw]; simp)]
   refine ⟨⟨undef,0,0⟩,rfl,E,H.upd I C he I.same ⟨fun _ _=>rfl,rfl,fun _ _=>rfl⟩ H.bits ?_ rfl⟩
   exact H.invSame I.inv he (fun _ _ _ _ _ e=>by cases e) (fun _ _ _ _ e=>by cases e) (fun _ _ _ e=>by cases e)
  ·rw [if_pos (H.want A I C ho hw)]
   left
   have hd:=does_op (H.sees A I C he) hev
   cases ef with
   | non =>
    have hd:(execOp (fill ops u ops.size a0).eval o).run P w = .ok (.value (r.d E)) w:=hd
    simp only [Oper.wp,hd,Oper.upon]
    refine ⟨⟨r.d E,0,0⟩,rfl,E,H.upd I C he I.same ⟨fun _ _=>rfl,rfl,fun _ _=>rfl⟩ H.bits ?_ rfl⟩
    exact H.invSame I.inv he (fun _ _ _ _ _ e=>by cases e) (fun _ _ _ _ e=>by cases e) (fun _ _ _ e=>by cases e)
   | al ty cells row =>
    obtain ⟨hd,hr⟩:=hd
    simp only [Oper.wp,hd,Oper.upon]
    obtain ⟨ag,inv⟩:=H.invAl I.inv C H.bits he
    refine ⟨⟨rowV w.heap.size row,0,0⟩,rfl,_,H.upd (E' := { E with β:=fun b=>if b = m.bl.length + nAl (pl.take i) then w.heap.size else E.β b }) I C he ⟨fun b hb=>?_,fun n hn=>I.same.k n hn,fun n hn=>I.same.v n hn⟩ ag H.bits inv ?_⟩
    ·rw [← I.same.b b hb]
     exact if_neg (by omega)
    ·show rowV w.heap.size row = r.d _
     rw [hr]
     cases row <;> simp [rowV,rowS,SV.d,S1.d,At.d,sxD]
   | st b cells =>
    obtain ⟨hd,k,hk', ho', hl,hr⟩:=hd
    simp only [Oper.wp,hd,Oper.upon]
    have hbk:blkL m pl L b = some k:=by
     have hk' : (match rdOf (eoD ops m (pl.take i) i) o.op with | some b' => if Nat.beq b b' then blkL m (pl.take i) (Rgn.pre ops i) b else none | none=>none) = some k:=hk'
     split at hk'
     ·rename_i b' hb
      split at hk'
      ·rename_i hbb
       have hbb:=Nat.eq_of_beq_eq_true hbb
       subst hbb
       exact H.view he C.out C.pre C.cl (by rw [hb]; exact Nat.beq_refl b) hk'
      ·cases hk'
     ·cases hk'
    exact ⟨⟨undef,0,0⟩,rfl,E,H.upd I C he I.same ⟨fun _ _=>rfl,rfl,fun _ _=>rfl⟩ H.bits (H.invSt I.inv C he hbk ho' hl) rfl⟩
 ·have hlen:=H.tlen he
  obtain ⟨β,κ', ℓ⟩:=E
  have hek:κ' = κi ++ (κs ++ more):=I.inv.ek.trans e2
  subst hek
  obtain ⟨f,args,R,h1,h2,h3⟩:=e6 (more:=κs ++ more) β ℓ w (by
   rw [hlen]
   refine ⟨rfl,I.inv.bel,fun b k hb=>?_,fun b k hb=>?_,fun b k hb=>?_,fun b c k l hb hc=>?_,I.inv.ol,by rw [← e2]; exact I.inv.ok,fun n φ hn hvis=>?_⟩
   ·exact I.inv.blk b k (H.view he C.out C.pre C.cl rfl hb)
   ·exact I.inv.own b k (H.view he C.out C.pre C.cl rfl hb)
   ·exact I.inv.old b k (H.view he C.out C.pre C.cl rfl hb)
   ·exact I.inv.inj b c k l (H.view he C.out C.pre C.cl rfl hb) (H.view he C.out C.pre C.cl rfl hc)
   ·exact I.inv.fac n φ (by rw [e3]; exact nth_app_l hn) (H.vis C.pre hvis))
  obtain ⟨hw,hx⟩:=call_at (H:=H) A I C he ho h1
  rw [if_pos hw]
  left
  simp only [Oper.wp,hx,Oper.upon]
  refine h2.mono fun e w' hr=>?_
  obtain ⟨v,xs,rfl,x1,x2,x3,x4⟩:=h3 e w' hr
  have hvb:Φi.length = m.nv + nV (pl.take i):=by rw [e5,hv]
  have hkb:κi.length = m.nk + nK (pl.take i):=by rw [e4,hk]
  let E' : Env:=⟨β,κi ++ (κs ++ more),fun n=>if m.nv + nV (pl.take i) ≤ n ∧ n < m.nv + nV (pl.take i) + φs.length then kat xs (n - (m.nv + nV (pl.take i))) else ℓ n⟩
  have hin:∀ n,m.nv + nV (pl.take i) ≤ n → n < m.nv + nV (pl.take i) + φs.length → mkV (n - m.nv) 0 pl = some i:=fun n a b=>H.mkHere he (by omega) (by omega)
  have ag:AgreeL m pl L ⟨β,κi ++ (κs ++ more),ℓ⟩ E' := ⟨fun _ _=>rfl,rfl,fun n hn=>by
   refine if_neg fun ⟨a,b⟩=>?_
   have hm:=hin n a b
   unfold visL at hn
   simp only [hm,C.out,Bool.or_false] at hn
   have:=blt_lt hn
   omega⟩
  have hb1:blkL m pl (ins i L) = blkL m pl L:=funext fun b=>blk_ins (fun _ j k h=>al_not he (fun _ _ _ _ _ e=>by cases e) h) (fun j c h=>st_not he (fun _ _ _ e=>by cases e) h)
  refine ⟨⟨v,0,0⟩,rfl,E', H.upd (E' := E') I C he ⟨fun b hb=>I.same.b b hb,fun n hn=>I.same.k n hn,fun n hn=>?_⟩ ag H.bits ?_ ?_⟩
  ·rw [← I.same.v n hn]
   exact if_neg (by omega)
  ·rw [hb1]
   refine ⟨e2.symm,?_,fun b k hb=>?_,I.inv.own,I.inv.old,I.inv.inj,fun n=>?_,I.inv.ok,fun n φ hn hvis=>?_⟩
   ·exact I.inv.bel.trans ⟨x4.os,x4.tape,x4.output,x4.size,fun k hk=>x4.block k (Nat.lt_of_lt_of_le hk I.inv.bel.size)⟩
   ·have hB:=I.inv.blk b k hb
    rw [At.agreeL ag (H.blkIn C.cl H.bits hb)]
    rw [← hB]
    exact x4.block _ (lt_of hB)
   ·show (if _ then _ else _:Value).oneCell' = true
    split
    ·exact x1 _
    ·exact I.inv.ol n
   ·by_cases hr:m.nv + nV (pl.take i) ≤ n ∧ n < m.nv + nV (pl.take i) + φs.length
    ·show φ.p _ (if _ then _ else _) w'
     rw [if_pos hr]
     refine x3 _ φ ?_
     rw [e3,nth_eq,List.getElem?_append_right (by omega)] at hn
     rw [hvb] at hn
     rw [List.getElem?_append_left (by omega)] at hn
     rw [nth_eq]; exact hn
    ·show φ.p _ (if _ then _ else _) w'
     rw [if_neg hr]
     refine φ.grow (GrowS.below x4) (I.inv.fac n φ hn ?_)
     rw [← vis_ins (i:=i) (fun hle j hj=>?_)]
     ·exact hvis
     ·rintro rfl
      obtain ⟨_,v', nk', nv', h4,h5,h6⟩:=mkV_at _ _ 0 j hj
      rw [Nat.sub_zero] at h4 h5 h6
      rw [he] at h4; cases h4
      omega
  ·refine x2 E' (fun n=>?_) (fun n hn=>?_)
   ·show kat (κi ++ (κs ++ more)) _ = _ ∨ _
    rw [← hkb,kat_app]
    by_cases hn:n < κs.length
    ·exact .inl (kat_left _ _ _ hn)
    ·exact .inr (by omega)
   ·show (if _ then _ else _) = _
    rw [if_pos ⟨by omega,by omega⟩,Nat.add_sub_cancel_left]
 ·have hlen:=H.tlen he
  obtain ⟨β,κ', ℓ⟩:=E
  have hek:κ' = κi ++ (κs ++ more):=I.inv.ek.trans e2
  subst hek
  obtain ⟨o', V,h1,h2,h3,h4⟩:=e5 (more:=κs ++ more) β ℓ w (by
   rw [hlen]
   refine ⟨rfl,I.inv.bel,fun b k hb=>?_,fun b k hb=>?_,fun b k hb=>?_,fun b c k l hb hc=>?_,I.inv.ol,by rw [← e2]; exact I.inv.ok,fun n φ hn hvis=>?_⟩
   ·exact I.inv.blk b k (H.view he C.out C.pre C.cl rfl hb)
   ·exact I.inv.own b k (H.view he C.out C.pre C.cl rfl hb)
   ·exact I.inv.old b k (H.view he C.out C.pre C.cl rfl hb)
   ·exact I.inv.inj b c k l (H.view he C.out C.pre C.cl rfl hb) (H.view he C.out C.pre C.cl rfl hc)
   ·exact I.inv.fac n φ (by rw [e3]; exact nth_app_l hn) (H.vis C.pre hvis)) (fill ops u ops.size a0).eval (by rw [hlen]; exact fun x v hv=>H.eo A I C (H.lt he) hv)
  rw [hlen] at h1 h2
  rw [ho] at h1
  cases h1
  rw [if_pos (H.want A I C ho h2)]
  left
  simp only [Oper.wp,h3,Oper.upon]
  have hkb:κi.length = m.nk + nK (pl.take i):=by rw [e4,hk]
  have hb1:blkL m pl (ins i L) = blkL m pl L:=funext fun b=>blk_ins (fun _ j k h=>al_not he (fun _ _ _ _ _ e=>by cases e) h) (fun j c h=>st_not he (fun _ _ _ e=>by cases e) h)
  have hv1:visL m pl (ins i L) = visL m pl L:=funext fun n=>vis_ins fun _ j h=>by
   rintro rfl
   obtain ⟨_,v', nk', nv', h5,h6,h7⟩:=mkV_at _ _ 0 j h
   rw [Nat.sub_zero] at h5 h6 h7
   rw [he] at h5; cases h5
   omega
  refine ⟨⟨V,0,0⟩,rfl,_,H.upd I C he I.same ⟨fun _ _=>rfl,rfl,fun _ _=>rfl⟩ H.bits (by rw [hb1,hv1]; exact I.inv) ?_⟩
  refine h4 _ (fun n=>?_)
  show kat (κi ++ (κs ++ more)) _ = _ ∨ _
  rw [← hkb,kat_app]
  by_cases hn:n < κs.length
  ·exact .inl (kat_left _ _ _ hn)
  ·exact .inr (by omega)
theorem region_D (H:PlanOk ops m pl) (g:Good P S W ops m κ0 Φ0 pl κ Φ) (hk:m.nk = κ0.length) (hv:m.nv = Φ0.length) (hm:P.follows .mixedOrders = true) {id:Nat} (A:AgF E m.fr a0) (I:Inv S W κ0 Φ0 E m.bl w)
  (fin:∀ E' u w', Ist S W ops m κ Φ pl E' a0 (fun _=>true) u w' E' → AgF E' m.fr a0 → Q .normal (fill ops u ops.size a0) w'):(Code.region id ops true).wp P Q a0 w:=by
 refine wp_region_any hm ?_
 obtain ⟨⟨more,hmk⟩,moreF,hmF⟩:=g.pre
 have hok:=H.ok
 let E0:Env:=⟨E.β,κ,E.ℓ⟩
 have s0:Same m.bl.length m.nk m.nv E E0:=⟨fun _ _=>rfl,fun n hn=>by
  show kat κ n = kat E.κ n
  rw [hmk,I.ek,kat_left _ _ _ (by omega)],fun _ _=>rfl⟩
 simp only [MS.okB,Bool.and_eq_true] at hok
 have A0:AgF E0 m.fr a0:=A.same s0 hok.1
 have hdr:Grow w w.drew:=Grow.drew w
 refine wp_region_inv H.pre H.apart (fun L u w=>∃ E', Ist S W ops m κ Φ pl E0 a0 L u w E') ⟨E0,⟨⟨fun _ _=>rfl,fun _ _=>rfl,fun _ _=>rfl⟩,?_,fun j _=>rfl,fun j e _ h=>(by cases h)⟩⟩ (fun L i o ho hL hpre hcl u w hI=>?_) (fun L u w hall hI=>?_)
 ·have hbk:∀ b k,blkL m pl (fun _=>false) b = some k → nth m.bl b = some k:=fun b k h=>by
   unfold blkL at h
   have hst:∀ k0:Blk,(match stAt b 0 pl with | some (j,cells)=>if false = true then some (⟨k0.ty,cells,true⟩:Blk) else some k0 | none=>some k0) = some k → k0 = k:=fun k0 h=>by
    split at h
    ·exact Option.some.inj h
    ·exact Option.some.inj h
   by_cases hb:Nat.blt b m.bl.length = true
   ·rw [if_pos hb] at h
    cases h0:nth m.bl b with
    | none=>rw [h0] at h; cases h
    | some k0=>rw [h0] at h; rw [hst k0 h]
   ·rw [if_neg hb] at h
    cases h0:alAt (b - m.bl.length) 0 pl with
    | none=>rw [h0] at h; cases h
    | some x=>rw [h0] at h; cases h
  refine ⟨rfl,?_,fun b k h=>?_,fun b k h=>I.own b k (hbk b k h),fun b k h=>I.old b k (hbk b k h),fun b c k l h1 h2=>I.inj b c k l (hbk b k h1) (hbk c l h2),I.ol,g.one I.ok,fun n φ hn hvis=>?_⟩
  ·exact I.bel.trans ⟨rfl,rfl,rfl,Nat.le_refl _,fun _ _=>rfl⟩
  ·have h:=hbk b k h
   have h1:=I.blk b k h
   rw [At.sameL s0 (List.all_eq_true.1 hok.2 k (nth_mem h))]
   exact h1
  ·have hn' : n < m.nv:=by
    unfold visL at hvis
    rw [Bool.or_eq_true] at hvis
    rcases hvis with hvis | hvis
    ·exact blt_lt hvis
    ·split at hvis <;> cases hvis
   have h0:nth Φ0 n = some φ:=by
    rw [hmF,nth_eq,List.getElem?_append_left (by omega)] at hn
    rw [nth_eq]; exact hn
   exact φ.grow (GrowS.drew _ _) (I.fac n φ h0)
 ·obtain ⟨E', hI⟩:=hI
  have e1:(fun j=>j == i || L j) = ins i L:=rfl
  rw [e1]
  exact step_D H g hk hv A0 ⟨hL,hpre,hcl⟩ ho hI
 ·obtain ⟨E', hI⟩:=hI
  have hI' : Ist S W ops m κ Φ pl E' a0 (fun _=>true) u w E' := by
   have hb:blkL m pl L = blkL m pl (fun _=>true):=funext fun b=>by
    unfold blkL
    have hL:∀ j,j < pl.length → L j = true:=fun j hj=>hall j (by rw [← H.len]; exact hj)
    have e2:∀ k:Blk,(match stAt b 0 pl with | some (j,cells)=>if L j then some (⟨k.ty,cells,true⟩:Blk) else some k | none=>some k) = (match stAt b 0 pl with | some (j,cells)=>if true = true then some ⟨k.ty,cells,true⟩ else some k | none=>some k):=by
     intro k
     split
     ·rename_i j cells hs
      obtain ⟨_,v,rd,h3⟩:=stAt_at b _ 0 j cells hs
      rw [Nat.sub_zero] at h3
      rw [hL j (nth_lt h3)]
     ·rfl
    by_cases hbb:Nat.blt b m.bl.length = true
    ·rw [if_pos hbb,if_pos hbb]
     cases nth m.bl b with
     | none=>rfl
     | some k=>exact e2 k
    ·rw [if_neg hbb,if_neg hbb]
     cases h0:alAt (b - m.bl.length) 0 pl with
     | none=>rfl
     | some x =>
      obtain ⟨j,k⟩:=x
      obtain ⟨_,_,v,row,rd,h3,_⟩:=alAt_at _ _ 0 j k h0
      rw [Nat.sub_zero] at h3
      simp only
      rw [hL j (nth_lt h3)]
      exact e2 k
   have hvv:visL m pl L = visL m pl (fun _=>true):=funext fun n=>by
    unfold visL
    congr 1
    split
    ·rename_i j hj
     obtain ⟨_,v,nk,nv,h3,_⟩:=mkV_at _ _ 0 j hj
     rw [Nat.sub_zero] at h3
     exact hall j (by rw [← H.len]; exact nth_lt h3)
    ·rfl
   refine ⟨⟨fun _ _=>rfl,fun _ _=>rfl,fun _ _=>rfl⟩,by rw [← hb,← hvv]; exact hI.inv,fun j h=>(by cases h),fun j e he _=>hI.on j e he (hall j (H.lt he))⟩
  exact fin E' u w hI' (A0.same hI.same hok.1)
end
section
variable {P:Program} {S:Nat → Prop} {W:World} {ops:Array Oper} {m:MS} {κ0 κ κs:List Value} {Φ0 Φ φs:List VP} {pl:List PE} {Q:Exit → Act → World → Prop} {E:Env} {w w' : World} {u:Nat → Got} {a0:Act}
theorem alAt_some:∀ (l:List PE) (q i:Nat),q < nAl l → ∃ x,alAt q i l = some x
 | .ev v (.al t c row) rd :: l,0,i,h=>⟨_,rfl⟩
 | .ev v (.al t c row) rd :: l,q + 1,i,h=>alAt_some l q (i + 1) (by simp only [nAl] at h; omega)
 | .ev v (.st b c) rd :: l,q,i,h=>by
  obtain ⟨x,hx⟩:=alAt_some l q (i + 1) h
  exact ⟨x,by rw [← hx]; rfl⟩
 | .ev v .non rd :: l,q,i,h=>by
  obtain ⟨x,hx⟩:=alAt_some l q (i + 1) h
  exact ⟨x,by rw [← hx]; rfl⟩
 | .no :: l,q,i,h=>by
  obtain ⟨x,hx⟩:=alAt_some l q (i + 1) h
  exact ⟨x,by rw [← hx]; rfl⟩
 | .ca _ _ _ :: l,q,i,h=>by
  obtain ⟨x,hx⟩:=alAt_some l q (i + 1) h
  exact ⟨x,by rw [← hx]; rfl⟩
theorem mkV_some:∀ (l:List PE) (q i:Nat),q < nV l → ∃ j,mkV q i l = some j
 | .ca _ nk nv :: l,q,i,h=>by
  simp only [mkV]
  split
  ·exact ⟨_,rfl⟩
  ·rename_i hb
   have hb:¬ q < nv:=fun e=>hb (by rw [Nat.blt_eq]; exact e)
   exact mkV_some l (q - nv) (i + 1) (by simp only [nV] at h; omega)
 | .ev _ _ _ :: l,q,i,h=>mkV_some l q (i + 1) h
 | .no :: l,q,i,h=>mkV_some l q (i + 1) h
theorem fr_D (I:∀ j e,nth pl j = some e → (u j).v = e.val.d E):∀ (n:Nat) {fr:List (Option SV)},AgF E fr a0 → AgF E (frD ops pl n fr) (fill ops u n a0)
 | 0,fr,A=>A
 | n + 1,fr,A=>put_F (fr_D I n A) _ _ _ (fun x hx=>by
   cases he:nth pl n with
   | none=>rw [he] at hx; cases hx
   | some e=>rw [he] at hx; cases hx; exact I n e he)
structure RunD (P:Program) (S:Nat → Prop) (W:World) (Q:Exit → Act → World → Prop) (ops:Array Oper) (m:MS) (κ0:List Value) (Φ0:List VP) (pl:List PE) (κ:List Value) (Φ:List VP):Prop where
 h:Good P S W ops m κ0 Φ0 pl κ Φ → Run P S W κ0 Φ0 Q m
theorem good_run:∀ (n:Nat) {pl:List PE},Good P S W ops m κ0 Φ0 pl κ Φ → Good P S W ops m κ0 Φ0 (runD P ops m n pl) κ Φ
 | 0,pl,g=>g
 | n + 1,pl,g=>by
  show Good P S W ops m κ0 Φ0 (match nextD P ops m pl with | some e=>runD P ops m n (pl ++ [e]) | none=>pl) κ Φ
  split
  ·rename_i e he; exact good_run n (g.ev he)
  ·exact g
theorem At.okB_up {nk nv:Nat} {xs:List Value} {a:At} (h:a.okB 0 κs.length φs.length = true) (hk:∀ n,kat E.κ (nk + n) = kat κs n ∨ κs.length ≤ n) (hv:∀ n,n < φs.length → E.ℓ (nv + n) = kat xs n):(a.up nk nv).d E = a.d ⟨E.β,κs,kat xs⟩:=by
 cases a with
 | v n=>exact hv n (blt_lt h)
 | k n=>exact (hk n).resolve_right (by have:=blt_lt h; omega)
 | c x=>rfl
 | p b off=>rfl
 | sl b off n c=>rfl
theorem S1.okB_up {nk nv:Nat} {xs:List Value} {a:S1} (h:a.okB 0 κs.length φs.length = true) (hk:∀ n,kat E.κ (nk + n) = kat κs n ∨ κs.length ≤ n) (hv:∀ n,n < φs.length → E.ℓ (nv + n) = kat xs n):(a.up nk nv).d E = a.d ⟨E.β,κs,kat xs⟩:=by
 cases a with
 | o a=>exact At.okB_up h hk hv
 | agg l =>
  show Value.agg ⟨(l.map (At.up nk nv)).map (At.d E)⟩ = .agg ⟨l.map (At.d ⟨E.β,κs,kat xs⟩)⟩
  rw [List.map_map]
  congr 2
  exact List.map_congr_left fun a ha=>At.okB_up (List.all_eq_true.1 h a ha) hk hv
theorem SV.okB_up {nk nv:Nat} {xs:List Value} {a:SV} (h:a.okB 0 κs.length φs.length = true) (hk:∀ n,kat E.κ (nk + n) = kat κs n ∨ κs.length ≤ n) (hv:∀ n,n < φs.length → E.ℓ (nv + n) = kat xs n):(a.up nk nv).d E = a.d ⟨E.β,κs,kat xs⟩:=by
 cases a with
 | s a=>exact S1.okB_up h hk hv
 | tup l =>
  show Value.tuple ⟨(l.map (S1.up nk nv)).map (S1.d E)⟩ = .tuple ⟨l.map (S1.d ⟨E.β,κs,kat xs⟩)⟩
  rw [List.map_map]
  congr 2
  exact List.map_congr_left fun a ha=>S1.okB_up (List.all_eq_true.1 h a ha) hk hv
abbrev plN (P:Program) (ops:Array Oper) (m:MS) (pl:List PE):List PE:=runD P ops m far pl
def plC (P:Program) (ops:Array Oper) (m:MS) (pl:List PE) (sh:SV) (nk nv:Nat):List PE:=plN P ops m pl ++ [.ca (sh.up (m.nk + nK (plN P ops m pl)) (m.nv + nV (plN P ops m pl))) nk nv]
theorem RunD.cR {f:FuncId} {args:(Nat → Nat) → (Nat → Value) → Array Value} {φ:VP} {sh:SV} (sp:Split φ sh κs φs)
  (hc:∀ {more:List Value} β ℓ w,InvD S W (κ ++ more) Φ ⟨β,κ ++ more,ℓ⟩ (blkL m (plN P ops m pl) (pre ops (plN P ops m pl).length)) (visL m (plN P ops m pl) (pre ops (plN P ops m pl).length)) w → Calls P f (args β ℓ) w (Ret φ (Amb S W) w))
  (rest:RunD P S W Q ops m κ0 Φ0 (plC P ops m pl sh sh.nk sh.nv) (κ ++ κs) (Φ ++ φs))
  (ha:∀ more β ℓ,argsD P ops m (plN P ops m pl) ⟨β,κ ++ more,ℓ⟩ = some (f,(args β ℓ).toList):=by intro more β ℓ; kernel_rfl) (h1:κs.all (·.oneCell') = true:=by kernel_rfl) (h2:sh.okB 0 κs.length φs.length = true:=by kernel_rfl) (hn:Nat.beq sh.nk κs.length = true:=by kernel_rfl) (hn' : Nat.beq sh.nv φs.length = true:=by kernel_rfl):RunD P S W Q ops m κ0 Φ0 pl κ Φ :=
 by
 rw [Nat.eq_of_beq_eq_true hn,Nat.eq_of_beq_eq_true hn'] at rest
 exact ⟨fun g=>rest.h (Good.ca (good_run far g) (fun {more} β ℓ w I=>by
  refine ⟨f,(args β ℓ).toList,_,ha more β ℓ,hc β ℓ w I,fun e w' hr=>?_⟩
  obtain ⟨v,e1,e2,e3⟩:=ret_amb I.bel.size hr
  obtain ⟨xs,_,x1,x2,x3⟩:=sp.at_ e2
  exact ⟨v,xs,e1,x1,fun E hk hv=>by rw [SV.okB_up h2 hk hv]; exact x2 _,x3,e3⟩) (kat_all h1))⟩
theorem RunD.cV {f:FuncId} {args:(Nat → Nat) → (Nat → Value) → Array Value} {V:Value} (κs:List Value) (sh:SV)
  (hc:∀ {more:List Value} β ℓ w,InvD S W (κ ++ more) Φ ⟨β,κ ++ more,ℓ⟩ (blkL m (plN P ops m pl) (pre ops (plN P ops m pl).length)) (visL m (plN P ops m pl) (pre ops (plN P ops m pl).length)) w → Calls P f (args β ℓ) w (RetV V w))
  (rest:RunD P S W Q ops m κ0 Φ0 (plC P ops m pl sh sh.nk 0) (κ ++ κs) (Φ ++ []))
  (ha:∀ more β ℓ,argsD P ops m (plN P ops m pl) ⟨β,κ ++ more,ℓ⟩ = some (f,(args β ℓ).toList):=by intro more β ℓ; kernel_rfl) (hV:∀ β ℓ,V = sh.d ⟨β,κs,ℓ⟩:=by intro β ℓ; kernel_rfl) (h1:κs.all (·.oneCell') = true:=by kernel_rfl) (h2:sh.okB 0 κs.length 0 = true:=by kernel_rfl) (hn:Nat.beq sh.nk κs.length = true:=by kernel_rfl):RunD P S W Q ops m κ0 Φ0 pl κ Φ :=
 by
 rw [Nat.eq_of_beq_eq_true hn] at rest
 exact ⟨fun g=>rest.h (Good.ca (φs:=[]) (good_run far g) (fun {more} β ℓ w I=>by
  refine ⟨f,(args β ℓ).toList,_,ha more β ℓ,hc β ℓ w I,fun e w' hr=>?_⟩
  obtain ⟨e1,e2⟩:=hr.is
  exact ⟨V,[],e1,fun n=>rfl,fun E hk hv=>by rw [SV.okB_up (φs:=[]) h2 hk hv]; exact hV _ _,fun n ψ hn=>(by cases n <;> cases hn),e2⟩) (kat_all h1))⟩
def binD (ops:Array Oper) (m:MS) (pl:List PE) (o:Oper):Option (BinOp × TypeId × SV × SV) :=
 match o.op with
 | .binOp op t x y _=>match eoD ops m pl pl.length x,eoD ops m pl pl.length y with
  | some v,some u=>some (op,t,v,u)
  | _,_=>none
 | _=>none
def opD (ops:Array Oper) (pl:List PE):Option Oper:=match ops[pl.length]? with | some o=>(match wantD ops pl pl.length o with | some true=>some o | _=>none) | none=>none
theorem RunD.bi {V:Value} (κs:List Value) (sh:SV) {op:BinOp} {t:TypeId} {a c:Value}
  (h:∀ w o (ρ:Operand → Value) x y t', o.op = .binOp op t x y t' → ρ x = a → ρ y = c → (execOp ρ o).run P w = .ok (.value V) w) (rest:RunD P S W Q ops m κ0 Φ0 (plC P ops m pl sh sh.nk 0) (κ ++ κs) Φ)
  (ha:∀ more β ℓ,((opD ops (plN P ops m pl)).bind (binD ops m (plN P ops m pl))).map (fun q=>(q.1,q.2.1,q.2.2.1.d ⟨β,κ ++ more,ℓ⟩,q.2.2.2.d ⟨β,κ ++ more,ℓ⟩)) = some (op,t,a,c):=by intro more β ℓ; kernel_rfl)
  (hV:∀ β ℓ,V = sh.d ⟨β,κs,ℓ⟩:=by intro β ℓ; kernel_rfl) (h1:κs.all (·.oneCell') = true:=by kernel_rfl) (h2:sh.okB 0 κs.length 0 = true:=by kernel_rfl) (hn:Nat.beq sh.nk κs.length = true:=by kernel_rfl):RunD P S W Q ops m κ0 Φ0 pl κ Φ:=by
 rw [Nat.eq_of_beq_eq_true hn] at rest
 refine ⟨fun g=>rest.h (Good.va (good_run far g) (fun {more} β ℓ w I ρ hρ=>?_) (kat_all h1))⟩
 have ha:=ha more β ℓ
 unfold opD at ha
 cases ho:ops[(runD P ops m far pl).length]? with
 | none=>rw [show ops[(plN P ops m pl).length]? = none from ho] at ha; cases ha
 | some o =>
  rw [show ops[(plN P ops m pl).length]? = some o from ho] at ha
  simp only at ha
  split at ha
  ·rename_i hw
   refine ⟨o,V,rfl,hw,?_,fun E hk=>by rw [SV.okB_up (φs:=[]) (xs:=[]) h2 hk (fun n hn=>by cases hn)]; exact hV _ _⟩
   simp only [Option.bind_some] at ha
   unfold binD at ha
   split at ha
   ·rename_i op' t1 x y t' hop
    split at ha
    ·rename_i v v' hv hu
     simp only [Option.map_some,Option.some.injEq,Prod.mk.injEq] at ha
     obtain ⟨rfl,rfl,h3,h4⟩:=ha
     exact h w o ρ x y t' hop ((hρ x v hv).trans h3) ((hρ y v' hu).trans h4)
    ·cases ha
   ·cases ha
  ·cases ha
theorem Run.dr (R:RunD P S W Q (opsOf (runM P far m)) (runM P far m) κ Φ [] κ Φ):Run P S W κ Φ Q m:=run_sound far (R.h .nil)
theorem RunD.en (R:Run P S W κ Φ Q (aftD ops m (plN P ops m pl))) (hd:isDr m = true:=by kernel_rfl) (ho:opsOf m = ops:=by rfl) (hp:(planB ops m (plN P ops m pl) && Nat.beq m.nk κ0.length && Nat.beq m.nv Φ0.length) = true:=by kernel_rfl) (hm:P.follows .mixedOrders = true:=by kernel_rfl):RunD P S W Q ops m κ0 Φ0 pl κ Φ:=⟨fun g=>by
 have g:Good P S W ops m κ0 Φ0 (plN P ops m pl) κ Φ:=good_run far g
 simp only [Bool.and_eq_true] at hp
 obtain ⟨⟨h1,h2⟩,h3⟩:=hp
 have H:=plan_ok h1
 have h2:=Nat.eq_of_beq_eq_true h2
 have h3:=Nat.eq_of_beq_eq_true h3
 generalize plN P ops m pl = pl at *
 refine Run.mk fun E a w I A=>?_
 unfold isDr at hd
 unfold opsOf at ho
 split at hd
 ·rename_i id ops' hc
  rw [hc] at ho ⊢
  have ho:ops' = ops:=ho
  subst ho
  refine region_D H g h2 h3 hm A I fun E' u w' J A' => ?_
  refine R.r E' _ w' ⟨J.inv.ek,J.inv.bel,?_,?_,?_,?_,J.inv.ol,J.inv.ok,?_⟩ (fr_D (fun j e he=>J.on j e he rfl) _ A')
  all_goals
   have get:∀ b k,nth (blD m pl) b = some k → blkL m pl (fun _=>true) b = some k:=fun b k h=>by
    unfold blD at h
    rw [nth_map,nth_eq] at h
    have hb:b < m.bl.length + nAl pl:=by
     refine Nat.lt_of_not_le fun hle=>?_
     rw [List.getElem?_eq_none (by simpa using hle)] at h
     cases h
    rw [List.getElem?_range hb] at h
    have h:(blkL m pl (fun _=>true) b).getD ⟨0,[],false⟩ = k:=Option.some.inj h
    cases hx:blkL m pl (fun _=>true) b with
    | some x=>rw [hx] at h; rw [show x = k from h]
    | none =>
     exfalso
     unfold blkL at hx
     have hst:∀ k0:Blk,(match stAt b 0 pl with | some (j,cells)=>if true = true then some (⟨k0.ty,cells,true⟩:Blk) else some k0 | none=>some k0) = none → False:=fun k0 h=>by split at h <;> cases h
     by_cases hbb:Nat.blt b m.bl.length = true
     ·rw [if_pos hbb] at hx
      obtain ⟨x,hn⟩:=nth_some_of_lt (blt_lt hbb)
      rw [hn] at hx; exact hst x hx
     ·rw [if_neg hbb] at hx
      have hge:m.bl.length ≤ b:=Nat.le_of_not_lt fun e=>hbb (by rw [Nat.blt_eq]; exact e)
      obtain ⟨⟨j,x⟩,hn⟩:=alAt_some pl (b - m.bl.length) 0 (by omega)
      rw [hn] at hx; exact hst x hx
  ·exact fun b k h=>J.inv.blk b k (get b k h)
  ·exact fun b k h=>J.inv.own b k (get b k h)
  ·exact fun b k h=>J.inv.old b k (get b k h)
  ·exact fun b c k l h h' => J.inv.inj b c k l (get b k h) (get c l h')
  ·intro n φ hn
   refine J.inv.fac n φ hn ?_
   have hl:=g.len.2
   have hn' := nth_lt hn
   unfold visL
   by_cases hb:n < m.nv
   ·rw [show Nat.blt n m.nv = true by rw [Nat.blt_eq]; exact hb]; rfl
   ·obtain ⟨j,hj⟩:=mkV_some pl (n - m.nv) 0 (by omega)
    rw [hj]; simp
 ·cases hd⟩
end
end Go.Proofs.YtcpjdjnaipbieaaGreat.Eng
namespace Go.Proofs.YtcpjdjnaipbieaaGreat
open Go.RowKit Rgn Eng
set_option maxHeartbeats 4000000
set_option maxRecDepth 100000
variable {S:Nat → Prop} {W:World}
noncomputable abbrev tldC (x:Cx):List Value:=(rgC (gcut x)).toList ++ [.int .i64 (gerr x)]
abbrev shT:SV:=.tup [.agg (ks 0 8),.o (.k 8)]
theorem mtTold {v0:Value} (m:Mb) (t0:(MatP m).p S v0 W) (p0:ht m.a.re + ht m.a.im + ht m.b.re + ht m.b.im + ht m.c.re + ht m.c.im + ht m.d.re + ht m.d.im ≤ 67108864) (p1:m.piv.zero = false) :
  Calls Tryz.prog 145 #[v0] W (RetV (.tuple #[.agg #[.bool ((((mbcut m.nrm).a).re).a).n,.string ((((mbcut m.nrm).a).re).a).s,.bool ((((mbcut m.nrm).a).re).b).n,.string ((((mbcut m.nrm).a).re).b).s,.bool ((((mbcut m.nrm).a).im).a).n,.string ((((mbcut m.nrm).a).im).a).s,.bool ((((mbcut m.nrm).a).im).b).n,.string ((((mbcut m.nrm).a).im).b).s,.bool ((((mbcut m.nrm).b).re).a).n,.string ((((mbcut m.nrm).b).re).a).s,.bool ((((mbcut m.nrm).b).re).b).n,.string ((((mbcut m.nrm).b).re).b).s,.bool ((((mbcut m.nrm).b).im).a).n,.string ((((mbcut m.nrm).b).im).a).s,.bool ((((mbcut m.nrm).b).im).b).n,.string ((((mbcut m.nrm).b).im).b).s,.bool ((((mbcut m.nrm).c).re).a).n,.string ((((mbcut m.nrm).c).re).a).s,.bool ((((mbcut m.nrm).c).re).b).n,.string ((((mbcut m.nrm).c).re).b).s,.bool ((((mbcut m.nrm).c).im).a).n,.string ((((mbcut m.nrm).c).im).a).s,.bool ((((mbcut m.nrm).c).im).b).n,.string ((((mbcut m.nrm).c).im).b).s,.bool ((((mbcut m.nrm).d).re).a).n,.string ((((mbcut m.nrm).d).re).a).s,.bool ((((mbcut m.nrm).d).re).b).n,.string ((((mbcut m.nrm).d).re).b).s,.bool ((((mbcut m.nrm).d).im).a).n,.string ((((mbcut m.nrm).d).im).a).s,.bool ((((mbcut m.nrm).d).im).b).n,.string ((((mbcut m.nrm).d).im).b).s,.bool ((mbcut m.nrm).t)],.int .i64 (mberr m.nrm)]) W):=by
 have h1:=mnrm_ht m
 have h2:=mpiv_ht m
 unfold Cx.hh at h1
 unfold Mb.hh Cx.hh at h2
 refine Run.goP (Pack.nil.s spMat t0) Tryz.func145 rfl ?_
 refine Run.cR spMat (fun β ℓ w H=>mtNorm m (MatP.mk (H.f 0) (H.f 1) (H.f 2) (H.f 3) (H.f 4) (H.f 5) (H.f 6) (H.f 7)) (by omega) p1) ?_
 refine Run.cV (tldC m.nrm.a) shT (fun β ℓ w H=>eTold m.nrm.a (NumP.mk (H.f 8) (H.f 9)) (by omega)) ?_
 refine Run.ic (gerr m.nrm.a) 0 (gerr m.nrm.a != 0) ?_
 rcases Bool.eq_false_or_eq_true (gerr m.nrm.a != 0) with c1 | c1
 · refine Run.kn c1 ?_
   exact Run.rV (mcut_1 c1)
 refine Run.kn c1 ?_
 refine Run.cV (tldC m.nrm.b) shT (fun β ℓ w H=>eTold m.nrm.b (NumP.mk (H.f 10) (H.f 11)) (by omega)) ?_
 refine Run.ic (gerr m.nrm.b) 0 (gerr m.nrm.b != 0) ?_
 rcases Bool.eq_false_or_eq_true (gerr m.nrm.b != 0) with c2 | c2
 · refine Run.kn c2 ?_
   exact Run.rV (mcut_2 c2)
 refine Run.kn c2 ?_
 refine Run.cV (tldC m.nrm.c) shT (fun β ℓ w H=>eTold m.nrm.c (NumP.mk (H.f 12) (H.f 13)) (by omega)) ?_
 refine Run.ic (gerr m.nrm.c) 0 (gerr m.nrm.c != 0) ?_
 rcases Bool.eq_false_or_eq_true (gerr m.nrm.c != 0) with c3 | c3
 · refine Run.kn c3 ?_
   exact Run.rV (mcut_3 c3)
 refine Run.kn c3 ?_
 refine Run.cV (tldC m.nrm.d) shT (fun β ℓ w H=>eTold m.nrm.d (NumP.mk (H.f 14) (H.f 15)) (by omega)) ?_
 refine Run.ic (gerr m.nrm.d) 0 (gerr m.nrm.d != 0) ?_
 rcases Bool.eq_false_or_eq_true (gerr m.nrm.d != 0) with c4 | c4
 · refine Run.kn c4 ?_
   exact Run.rV (mcut_4 c4)
 refine Run.kn c4 ?_
 exact Run.rV (mcut_y c1 c2 c3 c4)
end Go.Proofs.YtcpjdjnaipbieaaGreat
namespace Go.Proofs.YtcpjdjnaipbieaaGreat
open Go.RowKit Rgn
def Mb.isB (m:Mb):Cx:=if m.c.zero = true then (if ((Cx.ofInt (1:Int) (0:Int)).sub m.a.conj).zero = true then Cx.ofInt (0:Int) (1:Int) else (Cx.ofInt (1:Int) (0:Int)).sub m.a.conj) else m.d
def Mb.isC (m:Mb):Cx:=if m.c.zero = true then (m.isB.mul m.b).neg else m.b.neg
def Mb.isA (m:Mb):Rat:=if m.c.zero = true then ((0:Int):Rat) else ((1:Int):Rat)
def Mb.isK (m:Mb):Ci:=⟨m.isA,m.isB,m.isC.re⟩
def Mb.isOk (m:Mb):Bool:=m.t && (m.isC.im.num.sign == 0) && m.isK.pos && decide (m.isK.nrm.over.nrm = m)
def Mb.isR (m:Mb):RCi:=if m.isOk = true then cicut m.isK.nrm else rzCi
def Mb.isE (m:Mb):Int:=if m.isOk = true then cierr m.isK.nrm else 7
def Mb.isW (m:Mb):RCi:=if m.isOk = true then rci m.isK.nrm else rzCi
theorem cmul_comm (x y:Cx):x.mul y = y.mul x:=Cx.ext' (by show x.re * y.re - x.im * y.im = y.re * x.re - y.im * x.im; grind) (by show x.re * y.im + x.im * y.re = y.re * x.im + y.im * x.re; grind)
theorem cmul_one (x:Cx):x.mul (Cx.ofInt (1:Int) (0:Int)) = x:=by
 have c1:((1:Int):Rat) = 1:=rfl
 have c0:((0:Int):Rat) = 0:=rfl
 exact Cx.ext' (by show x.re * ((1:Int):Rat) - x.im * ((0:Int):Rat) = x.re; rw [c1,c0]; grind) (by show x.re * ((0:Int):Rat) + x.im * ((1:Int):Rat) = x.im; rw [c1,c0]; grind)
theorem is_w0 {m:Mb} (h:m.c.zero = false):m.isK = ⟨Rat.divInt (1:Int) (1:Int),m.d,(m.b.mul (Cx.ofInt (1:Int) (0:Int))).neg.re⟩ ∧ m.isC.im = (m.b.mul (Cx.ofInt (1:Int) (0:Int))).neg.im:=by
 have h' : ¬ m.c.zero = true:=by rw [h]; decide
 unfold Mb.isK Mb.isC Mb.isB Mb.isA
 rw [if_neg h', if_neg h', if_neg h', cmul_one,divInt_one]
 exact ⟨rfl,rfl⟩
theorem is_w1 {m:Mb} (h:m.c.zero = true) (h2:((Cx.ofInt (1:Int) (0:Int)).sub m.a.conj).zero = false):m.isK = ⟨0,(Cx.ofInt (1:Int) (0:Int)).sub m.a.conj,(m.b.mul ((Cx.ofInt (1:Int) (0:Int)).sub m.a.conj)).neg.re⟩ ∧ m.isC.im = (m.b.mul ((Cx.ofInt (1:Int) (0:Int)).sub m.a.conj)).neg.im:=by
 have h' : ¬ ((Cx.ofInt (1:Int) (0:Int)).sub m.a.conj).zero = true:=by rw [h2]; decide
 have hB:m.isB = (Cx.ofInt (1:Int) (0:Int)).sub m.a.conj:=by unfold Mb.isB; rw [if_pos h,if_neg h']
 have hC:m.isC = (m.b.mul ((Cx.ofInt (1:Int) (0:Int)).sub m.a.conj)).neg:=by unfold Mb.isC; rw [if_pos h,hB,cmul_comm]
 unfold Mb.isK Mb.isA
 rw [if_pos h,hB,hC]
 exact ⟨rfl,rfl⟩
theorem is_w2 {m:Mb} (h:m.c.zero = true) (h2:((Cx.ofInt (1:Int) (0:Int)).sub m.a.conj).zero = true):m.isK = ⟨0,Cx.ofInt (0:Int) (1:Int),(m.b.mul (Cx.ofInt (0:Int) (1:Int))).neg.re⟩ ∧ m.isC.im = (m.b.mul (Cx.ofInt (0:Int) (1:Int))).neg.im:=by
 have hB:m.isB = Cx.ofInt (0:Int) (1:Int):=by unfold Mb.isB; rw [if_pos h,if_pos h2]
 have hC:m.isC = (m.b.mul (Cx.ofInt (0:Int) (1:Int))).neg:=by unfold Mb.isC; rw [if_pos h,hB,cmul_comm]
 unfold Mb.isK Mb.isA
 rw [if_pos h,hB,hC]
 exact ⟨rfl,rfl⟩
section
variable {m:Mb} {k:Ci} {q:Rat}
theorem is_n {m:Mb} (h:m.isOk = false):Value.tuple #[.agg zCi,.int .i64 7] = .tuple #[rciV m.isR,.int .i64 m.isE]:=by
 have h' : ¬ m.isOk = true:=by rw [h]; decide
 unfold Mb.isR Mb.isE
 rw [if_neg h', if_neg h']
theorem ok_t (h:m.t = false):m.isOk = false:=by
 unfold Mb.isOk; rw [h]; rfl
theorem ok_i (e:m.isK = k ∧ m.isC.im = q) (h:(q.num.sign != 0) = true):m.isOk = false:=by
 have:(m.isC.im.num.sign == 0) = false:=by rw [e.2]; simpa using h
 unfold Mb.isOk; rw [this]; simp
theorem ok_p (e:m.isK = k ∧ m.isC.im = q) (h:decide (k.pow.num.sign ≤ 0) = true):m.isOk = false:=by
 have:m.isK.pos = false:=by unfold Ci.pos; rw [e.1,h]; rfl
 unfold Mb.isOk; rw [this]; simp
theorem mbcut_iff {x:Mb} (hm:mbOk (rmb m) = true):decide (mbcut x = rmb m) = decide (x = m):=by
 obtain ⟨hf,hz,_⟩:=mbOk_c hm
 unfold mbcut
 split
 ·exact rmb_dec x m
 ·rename_i hn
  rw [decide_eq_false (fun e:x = m=>hn (e ▸ hf)),decide_eq_false]
  intro e
  have h2:=congrArg (fun r:RMb=>gfits r.a) e
  have h3:=congrArg (fun r:RMb=>r.a.re.b.s) e
  have h4:(⟨#[]⟩:ByteArray) = bS (m.a.re.den:Int).natAbs:=h3
  have h5:=bS_empty (m.a.re.den:Int).natAbs
  rw [← h4] at h5
  have h6:=m.a.re.den_pos
  simp at h5
  omega
theorem ok_b (hm:mbOk (rmb m) = true) (e:m.isK = k ∧ m.isC.im = q) (h:(!decide (mbcut k.nrm.over.nrm = rmb m)) = true):m.isOk = false:=by
 rw [mbcut_iff hm] at h
 have:decide (m.isK.nrm.over.nrm = m) = false:=by rw [e.1]; simpa using h
 unfold Mb.isOk; rw [this]; simp
theorem ok_y (hm:mbOk (rmb m) = true) (e:m.isK = k ∧ m.isC.im = q) (h1:m.t = true) (h2:(q.num.sign != 0) = false) (h3:decide (k.pow.num.sign ≤ 0) = false) (h4:(!decide (mbcut k.nrm.over.nrm = rmb m)) = false):m.isOk = true:=by
 rw [mbcut_iff hm] at h4
 unfold Mb.isOk Ci.pos
 rw [e.1,e.2,h3]
 simp at h2 h4
 simp [h1,h2,h4]
theorem is_y (e:m.isK = k ∧ m.isC.im = q) (h:m.isOk = true):Value.tuple #[rciV (cicut k.nrm),.int .i64 (cierr k.nrm)] = .tuple #[rciV m.isR,.int .i64 m.isE]:=by
 unfold Mb.isR Mb.isE
 rw [if_pos h,if_pos h,e.1]
end
theorem over_det (c:Ci):c.over.det = ⟨-c.pow,0⟩:=by
 refine Cx.ext' ?_ ?_
 ·show (-c.b.re * c.b.re - - -c.b.im * c.b.im) - (-c.c * c.a - 0 * 0) = -(c.b.re * c.b.re + c.b.im * c.b.im - c.a * c.c)
  grind
 ·show (-c.b.re * c.b.im + - -c.b.im * c.b.re) - (-c.c * 0 + 0 * c.a) = 0
  grind
theorem over_piv {c:Ci} (h:c.pos = true):c.over.piv.zero = false:=by
 refine det_piv ?_
 rw [over_det]
 cases e:Cx.zero ⟨-c.pow,0⟩ with
 | false=>rfl
 | true =>
  have h1:-c.pow = 0:=congrArg Cx.re (zero_iff.1 e)
  have h2:c.pow = 0:=by grind
  have:=pos_le h
  rw [h2] at this
  exact absurd this (by decide)
theorem pow_nrm (c:Ci):c.nrm.pow = c.pow * (c.piv⁻¹ * c.piv⁻¹):=by
 show (c.b.re * c.piv⁻¹) * (c.b.re * c.piv⁻¹) + (c.b.im * c.piv⁻¹) * (c.b.im * c.piv⁻¹) - (c.a * c.piv⁻¹) * (c.c * c.piv⁻¹) = (c.b.re * c.b.re + c.b.im * c.b.im - c.a * c.c) * (c.piv⁻¹ * c.piv⁻¹)
 grind
theorem pos_iff {c:Ci}:c.pos = true ↔ 0 < c.pow:=by
 unfold Ci.pos
 rw [Bool.not_eq_true', decide_eq_false_iff_not]
 have h:=sign3 c.pow.num
 have h1:0 ≤ c.pow.num ↔ 0 ≤ c.pow:=Rat.num_nonneg
 have h2:c.pow.num = 0 ↔ c.pow = 0:=Rat.num_eq_zero
 have h3:0 ≤ c.pow ↔ 0 < c.pow ∨ 0 = c.pow:=Rat.le_iff_lt_or_eq
 constructor
 ·intro hp
  have h4:0 ≤ c.pow:=h1.1 (by omega)
  rcases h3.1 h4 with h5 | h5
  ·exact h5
  ·have:=h2.2 h5.symm; omega
 ·intro hp
  have h4:0 ≤ c.pow.num:=h1.2 (h3.2 (.inl hp))
  have h5:c.pow.num ≠ 0:=fun e=>by
   have:=h2.1 e
   rw [this] at hp
   exact absurd hp (by decide)
  omega
theorem pos_nrm {c:Ci} (h:c.pos = true):c.nrm.pos = true:=by
 rw [pos_iff] at h ⊢
 rw [pow_nrm]
 have hp:=piv_ne (pos_flat (pos_iff.2 h))
 have hi:c.piv⁻¹ ≠ 0:=fun e=>hp (by rw [← Rat.inv_inv c.piv,e,Rat.inv_zero])
 refine Rat.mul_pos h ?_
 have h2:=sq_nonneg c.piv⁻¹
 rcases Rat.le_iff_lt_or_eq.1 h2 with h3 | h3
 ·exact h3
 ·rcases Rat.mul_eq_zero.1 h3.symm with h4 | h4 <;> exact absurd h4 hi
theorem nrm_le {k:Ci} (h:ht k.a + ht k.b.re + ht k.b.im + ht k.c ≤ 1000000):ht k.nrm.a + ht k.nrm.b.re + ht k.nrm.b.im + ht k.nrm.c ≤ 5000000:=by
 have h1:=nrm_ht k
 have h2:=piv_ht k
 unfold Ci.hh Cx.hh at h2
 omega
theorem over_le {k:Ci} (h:ht k.a + ht k.b.re + ht k.b.im + ht k.c ≤ 10000000):ht k.over.a.re + ht k.over.a.im + ht k.over.b.re + ht k.over.b.im + ht k.over.c.re + ht k.over.c.im + ht k.over.d.re + ht k.over.d.im ≤ 67108864:=by
 have h1:=ht_neg k.b.re
 have h2:=ht_neg (-k.b.im)
 have h3:=ht_neg k.b.im
 have h4:=ht_neg k.c
 have h5:=ht_zero
 show ht (-k.b.re) + ht (- -k.b.im) + ht (-k.c) + ht (0:Rat) + ht k.a + ht (0:Rat) + ht k.b.re + ht k.b.im ≤ _
 omega
theorem pos_of {k:Ci} (h:decide (k.pow.num.sign ≤ 0) = false):k.pos = true:=by unfold Ci.pos; rw [h]; rfl
section
variable {m:Mb} {k:Ci} {q:Rat}
theorem rs_w0 (h:m.c.zero = false):m.isK = ⟨((1:Int):Rat),m.d,m.b.neg.re⟩ ∧ m.isC.im = m.b.neg.im:=by
 have h' : ¬ m.c.zero = true:=by rw [h]; decide
 unfold Mb.isK Mb.isC Mb.isB Mb.isA
 rw [if_neg h', if_neg h', if_neg h']
 exact ⟨rfl,rfl⟩
theorem rs_w1 (h:m.c.zero = true) (h2:((Cx.ofInt (1:Int) (0:Int)).sub m.a.conj).zero = false):m.isK = ⟨((0:Int):Rat),(Cx.ofInt (1:Int) (0:Int)).sub m.a.conj,(((Cx.ofInt (1:Int) (0:Int)).sub m.a.conj).mul m.b).neg.re⟩ ∧ m.isC.im = (((Cx.ofInt (1:Int) (0:Int)).sub m.a.conj).mul m.b).neg.im:=by
 have h' : ¬ ((Cx.ofInt (1:Int) (0:Int)).sub m.a.conj).zero = true:=by rw [h2]; decide
 have hB:m.isB = (Cx.ofInt (1:Int) (0:Int)).sub m.a.conj:=by unfold Mb.isB; rw [if_pos h,if_neg h']
 have hC:m.isC = (((Cx.ofInt (1:Int) (0:Int)).sub m.a.conj).mul m.b).neg:=by unfold Mb.isC; rw [if_pos h,hB]
 unfold Mb.isK Mb.isA
 rw [if_pos h,hB,hC]
 exact ⟨rfl,rfl⟩
theorem rs_w2 (h:m.c.zero = true) (h2:((Cx.ofInt (1:Int) (0:Int)).sub m.a.conj).zero = true):m.isK = ⟨((0:Int):Rat),Cx.ofInt (0:Int) (1:Int),((Cx.ofInt (0:Int) (1:Int)).mul m.b).neg.re⟩ ∧ m.isC.im = ((Cx.ofInt (0:Int) (1:Int)).mul m.b).neg.im:=by
 have hB:m.isB = Cx.ofInt (0:Int) (1:Int):=by unfold Mb.isB; rw [if_pos h,if_pos h2]
 have hC:m.isC = ((Cx.ofInt (0:Int) (1:Int)).mul m.b).neg:=by unfold Mb.isC; rw [if_pos h,hB]
 unfold Mb.isK Mb.isA
 rw [if_pos h,hB,hC]
 exact ⟨rfl,rfl⟩
theorem rs_n (h:m.isOk = false):Value.tuple #[.agg zCi,.bool false] = .tuple #[rciV m.isW,.bool m.isOk]:=by
 have h' : ¬ m.isOk = true:=by rw [h]; decide
 unfold Mb.isW
 rw [if_neg h', h]
theorem rs_t (h:(!m.t) = true):m.isOk = false:=ok_t (by simpa using h)
theorem rs_b (e:m.isK = k ∧ m.isC.im = q) (h:(!decide (k.nrm.over.nrm = m)) = true):m.isOk = false:=by
 have:decide (m.isK.nrm.over.nrm = m) = false:=by rw [e.1]; simpa using h
 unfold Mb.isOk; rw [this]; simp
theorem rs_y (e:m.isK = k ∧ m.isC.im = q) (h1:(!m.t) = false) (h2:(q.num.sign != 0) = false) (h3:decide (k.pow.num.sign ≤ 0) = false) (h4:(!decide (k.nrm.over.nrm = m)) = false):Value.tuple #[rciV (rci k.nrm),.bool true] = .tuple #[rciV m.isW,.bool m.isOk]:=by
 have:m.isOk = true:=by
  unfold Mb.isOk Ci.pos
  rw [e.1,e.2,h3]
  simp at h1 h2 h4
  simp [h1,h2,h4]
 unfold Mb.isW
 rw [if_pos this,this,e.1]
end
def isCb (r:RCi) (e:Int) (q:RCi):Bool:=if cifits q = true then decide (r = q) && (e == 0) else decide (r = rzCi) && (e == 4)
section
variable {r q:RCi} {e:Int}
theorem isC_1 (h:(!cifits q) = true) (h2:decide (r = rzCi) = true):Value.bool (e == 4) = .bool (isCb r e q):=by
 unfold isCb; rw [if_neg (by simpa using h),h2]; simp
theorem isC_2 (h:(!cifits q) = true) (h2:decide (r = rzCi) = false):Value.bool false = .bool (isCb r e q):=by
 unfold isCb; rw [if_neg (by simpa using h),h2]; simp
theorem isC_3 (h:(!cifits q) = false) (h2:decide (r = q) = true):Value.bool (e == 0) = .bool (isCb r e q):=by
 unfold isCb; rw [if_pos (by simpa using h),h2]; simp
theorem isC_4 (h:(!cifits q) = false) (h2:decide (r = q) = false):Value.bool false = .bool (isCb r e q):=by
 unfold isCb; rw [if_pos (by simpa using h),h2]; simp
end
theorem isC_ok (k:Ci):isCb (cicut k) (cierr k) (rci k) = true:=by
 unfold isCb cicut cierr
 by_cases h:cifits (rci k) = true
 ·rw [if_pos h,if_pos h,if_pos h]; simp
 ·rw [if_neg h,if_neg h,if_neg h]; simp
def lg1 (r:RW):Bool:=decide (80 < (r.s.size:Int)) && decide ((r.s.size:Int) ≤ 1024)
def lgF (r:RF):Bool:=lg1 r.a || lg1 r.b
def lgG (r:RG):Bool:=lgF r.re || lgF r.im
section
variable {r:RF}
theorem lg_1 (h4:decide (80 < ((r.a.s.size:Nat):Int)) = true) (h5:decide (((r.a.s.size:Nat):Int) ≤ 1024) = true):Value.bool true = .bool (lgF r):=by unfold lgF lg1; rw [h4,h5]; rfl
theorem lg_2 (h4:decide (80 < ((r.a.s.size:Nat):Int)) = true) (h5:decide (((r.a.s.size:Nat):Int) ≤ 1024) = false) (h6:decide (80 < ((r.b.s.size:Nat):Int)) = true):Value.bool (decide (((r.b.s.size:Nat):Int) ≤ 1024)) = .bool (lgF r):=by unfold lgF lg1; rw [h4,h5,h6]; simp
theorem lg_3 (h4:decide (80 < ((r.a.s.size:Nat):Int)) = true) (h5:decide (((r.a.s.size:Nat):Int) ≤ 1024) = false) (h6:decide (80 < ((r.b.s.size:Nat):Int)) = false):Value.bool false = .bool (lgF r):=by unfold lgF lg1; rw [h4,h5,h6]; rfl
theorem lg_4 (h4:decide (80 < ((r.a.s.size:Nat):Int)) = false) (h6:decide (80 < ((r.b.s.size:Nat):Int)) = true):Value.bool (decide (((r.b.s.size:Nat):Int) ≤ 1024)) = .bool (lgF r):=by unfold lgF lg1; rw [h4,h6]; simp
theorem lg_5 (h4:decide (80 < ((r.a.s.size:Nat):Int)) = false) (h6:decide (80 < ((r.b.s.size:Nat):Int)) = false):Value.bool false = .bool (lgF r):=by unfold lgF lg1; rw [h4,h6]; rfl
end
end Go.Proofs.YtcpjdjnaipbieaaGreat
namespace Go.Proofs.YtcpjdjnaipbieaaGreat
open Go.RowKit Rgn
set_option maxHeartbeats 4000000
set_option maxRecDepth 100000
variable {S:Nat → Prop} {W:World}
theorem eRatF0 (r:RF) (p0:wformed r.a = false) :
  Calls Tryz.prog 198 #[rfV r] W (RetV (.pointer none) W):=by
 have bel:=b0 W
 go_enter Tryz.func198,Tryz.ntmps198
 refine gs 2 (Amb Z0 W) fun _ K1=>?_
 refine .bx rfl (fun H=>H.v 0 (rfV r)) ?_
 refine .mc rfl ?_
 refine .dk (fun u=>rfV r::u 0::u 1::us 61) K1 bel fun u1 w1 D bel=>?_
 obtain ⟨b2,E1_0,A2,B2⟩:=D.nw 0
 have E1_1:=D.q 1
 clear D
 refine wp_seq_k fun _ K3=>?_
 refine gs 35 (Amb Z0 W) fun _ K4=>?_
 refine .fz rfl 1 0 E1_0 ?_
 refine .lp rfl 0 (rwC r.a) B2 ?_
 refine .cK rfl (V:=.bool false) Tryz.func256 (fun H=>⟨_,ar1 (H.g 7 1),reV (congrArg Value.bool p0) (eFormed _)⟩) ?_
 refine .e rfl (V:=.bool true) (fun H=>x_not (H.g 8 2)) ?_
 refine .mv rfl 3 ?_
 refine .sk rfl 4 ?_
 refine .sk rfl 4 ?_
 refine .sk rfl 4 ?_
 refine .sk rfl 4 ?_
 refine .e rfl (fun H=>x_pkT (H.g 10 4) (H.c _)) ?_
 refine .mv rfl 9 ?_
 refine .sk rfl 10 ?_
 refine .sk rfl 10 ?_
 refine .sk rfl 10 ?_
 refine .e rfl (fun H=>x_pkT (H.g 16 10) (H.c _)) ?_
 refine .mv rfl 14 ?_
 refine .sk rfl 15 ?_
 refine .sk rfl 15 ?_
 refine .sk rfl 15 ?_
 refine .sk rfl 15 ?_
 refine .e rfl (fun H=>x_pkT (H.g 21 15) (H.c _)) ?_
 refine .mv rfl 20 ?_
 refine .sk rfl 21 ?_
 refine .sk rfl 21 ?_
 refine .sk rfl 21 ?_
 refine .sk rfl 21 ?_
 refine .sk rfl 21 ?_
 refine .e rfl (fun H=>x_pkT (H.g 27 21) (H.c _)) ?_
 refine .mv rfl 27 ?_
 refine .sk rfl 28 ?_
 refine .sk rfl 28 ?_
 refine .sk rfl 28 ?_
 refine .sk rfl 28 ?_
 refine .sk rfl 28 ?_
 refine .e rfl (fun H=>x_pkT (H.g 34 28) (H.c _)) ?_
 refine .dk (fun u=>rfV r::u1 0::u1 1::U::U::U::sq u 0 35 (us 23)) K4 bel fun u2 w2 D bel=>?_
 have E2_34:=D.q 34
 replace B2:=D.k B2
 clear D
 refine wp_cond_true (by exact E2_34) ?_
 refine gs 1 (Amb Z0 W) fun _ K5=>?_
 refine .mc rfl ?_
 refine .dk (fun u=>rfV r::u1 0::u 0::U::U::U::sq u2 0 35 (us 23)) K5 bel fun u3 w3 D bel=>?_
 have E3_0:=D.q 0
 clear D
 exact wp_ret (rt rfl E3_0 rfl bel)
theorem eRatF1 (r:RF) (p0:wformed r.a = true) (p1:wformed r.b = false) :
  Calls Tryz.prog 198 #[rfV r] W (RetV (.pointer none) W):=by
 have bel:=b0 W
 go_enter Tryz.func198,Tryz.ntmps198
 refine gs 2 (Amb Z0 W) fun _ K1=>?_
 refine .bx rfl (fun H=>H.v 0 (rfV r)) ?_
 refine .mc rfl ?_
 refine .dk (fun u=>rfV r::u 0::u 1::us 61) K1 bel fun u1 w1 D bel=>?_
 obtain ⟨b2,E1_0,A2,B2⟩:=D.nw 0
 have E1_1:=D.q 1
 clear D
 refine wp_seq_k fun _ K3=>?_
 refine gs 35 (Amb Z0 W) fun _ K4=>?_
 refine .fz rfl 1 0 E1_0 ?_
 refine .lp rfl 0 (rwC r.a) B2 ?_
 refine .cK rfl (V:=.bool true) Tryz.func256 (fun H=>⟨_,ar1 (H.g 7 1),reV (congrArg Value.bool p0) (eFormed _)⟩) ?_
 refine .e rfl (V:=.bool false) (fun H=>x_not (H.g 8 2)) ?_
 refine .mv rfl 3 ?_
 refine .fz rfl 1 2 E1_0 ?_ (hg:=gq 4 rfl)
 refine .lp rfl 5 (rwC r.b) B2 ?_ (hg:=gq 4 rfl)
 refine .cK rfl (V:=.bool false) Tryz.func256 (fun H=>⟨_,ar1 (H.g 12 6),reV (congrArg Value.bool p1) (eFormed _)⟩) ?_ (hg:=gq 4 rfl)
 refine .e rfl (V:=.bool true) (fun H=>x_not (H.g 13 7)) ?_ (hg:=gq 4 rfl)
 refine .e rfl (fun H=>x_pkF (H.g 10 4) (H.g 14 8)) ?_
 refine .mv rfl 9 ?_
 refine .sk rfl 10 ?_
 refine .sk rfl 10 ?_
 refine .sk rfl 10 ?_
 refine .e rfl (fun H=>x_pkT (H.g 16 10) (H.c _)) ?_
 refine .mv rfl 14 ?_
 refine .sk rfl 15 ?_
 refine .sk rfl 15 ?_
 refine .sk rfl 15 ?_
 refine .sk rfl 15 ?_
 refine .e rfl (fun H=>x_pkT (H.g 21 15) (H.c _)) ?_
 refine .mv rfl 20 ?_
 refine .sk rfl 21 ?_
 refine .sk rfl 21 ?_
 refine .sk rfl 21 ?_
 refine .sk rfl 21 ?_
 refine .sk rfl 21 ?_
 refine .e rfl (fun H=>x_pkT (H.g 27 21) (H.c _)) ?_
 refine .mv rfl 27 ?_
 refine .sk rfl 28 ?_
 refine .sk rfl 28 ?_
 refine .sk rfl 28 ?_
 refine .sk rfl 28 ?_
 refine .sk rfl 28 ?_
 refine .e rfl (fun H=>x_pkT (H.g 34 28) (H.c _)) ?_
 refine .dk (fun u=>rfV r::u1 0::u1 1::U::U::U::sq u 0 35 (us 23)) K4 bel fun u2 w2 D bel=>?_
 have E2_34:=D.q 34
 replace B2:=D.k B2
 clear D
 refine wp_cond_true (by exact E2_34) ?_
 refine gs 1 (Amb Z0 W) fun _ K5=>?_
 refine .mc rfl ?_
 refine .dk (fun u=>rfV r::u1 0::u 0::U::U::U::sq u2 0 35 (us 23)) K5 bel fun u3 w3 D bel=>?_
 have E3_0:=D.q 0
 clear D
 exact wp_ret (rt rfl E3_0 rfl bel)
theorem eRatW (g:Int × Int) (p0:fmay (RF.mk (rw g.1) (rw g.2)) = false) :
  Calls Tryz.prog 198 #[wwV g] W (RetV (.pointer none) W):=by
 have b1:hi g.1 ≤ 8 * (bS g.1.natAbs).size + 1:=hi_bytes g.1
 have b2:hi g.2 ≤ 8 * (bS g.2.natAbs).size + 1:=hi_bytes g.2
 have b3:=hi_num (Rat.divInt g.1 g.2)
 have b4:=hi_den (Rat.divInt g.1 g.2)
 have bel:=b0 W
 go_enter Tryz.func198,Tryz.ntmps198
 refine gs 2 (Amb Z0 W) fun _ K1=>?_
 refine .bx rfl (fun H=>H.v 0 (wwV g)) ?_
 refine .mc rfl ?_
 refine .dk (fun u=>wwV g::u 0::u 1::us 61) K1 bel fun u1 w1 D bel=>?_
 obtain ⟨b2,E1_0,A2,B2⟩:=D.nw 0
 have E1_1:=D.q 1
 clear D
 refine wp_seq_k fun _ K3=>?_
 rcases Bool.eq_false_or_eq_true (decide (g.2 < 0)) with c5 | c5
 ·
  have dc5:=of_decide_eq_true c5
  refine gs 35 (Amb Z0 W) fun _ K4=>?_
  refine .fz rfl 1 0 E1_0 ?_
  refine .lp rfl 0 (wC g.1) B2 ?_
  refine .cK rfl (V:=.bool true) Tryz.func256 (fun H=>⟨_,ar1 (H.g 7 1),reV (congrArg Value.bool (wformed_rw _)) (eFormed (rw g.1))⟩) ?_
  refine .e rfl (V:=.bool false) (fun H=>x_not (H.g 8 2)) ?_
  refine .mv rfl 3 ?_
  refine .fz rfl 1 2 E1_0 ?_ (hg:=gq 4 rfl)
  refine .lp rfl 5 (wC g.2) B2 ?_ (hg:=gq 4 rfl)
  refine .cK rfl (V:=.bool true) Tryz.func256 (fun H=>⟨_,ar1 (H.g 12 6),reV (congrArg Value.bool (wformed_rw _)) (eFormed (rw g.2))⟩) ?_ (hg:=gq 4 rfl)
  refine .e rfl (V:=.bool false) (fun H=>x_not (H.g 13 7)) ?_ (hg:=gq 4 rfl)
  refine .e rfl (fun H=>x_pkF (H.g 10 4) (H.g 14 8)) ?_
  refine .mv rfl 9 ?_
  refine .fz rfl 1 2 E1_0 ?_ (hg:=gq 10 rfl)
  refine .fj rfl 11 2 ?_ (hg:=gq 10 rfl)
  refine .e rfl (V:=.bool true) (fun H=>by have e18:=H.g 18 12; have c1:=cell_of (off:=2) (H.b B2) rfl; have k_:=c5; clear H; go_simp <;> first | (simp_all; done) | omega | exact len_gt z0_) ?_ (hg:=gq 10 rfl)
  refine .e rfl (fun H=>x_pkF (H.g 16 10) (H.g 19 13)) ?_
  refine .mv rfl 14 ?_
  refine .sk rfl 15 ?_
  refine .sk rfl 15 ?_
  refine .sk rfl 15 ?_
  refine .sk rfl 15 ?_
  refine .e rfl (fun H=>x_pkT (H.g 21 15) (H.c _)) ?_
  refine .mv rfl 20 ?_
  refine .sk rfl 21 ?_
  refine .sk rfl 21 ?_
  refine .sk rfl 21 ?_
  refine .sk rfl 21 ?_
  refine .sk rfl 21 ?_
  refine .e rfl (fun H=>x_pkT (H.g 27 21) (H.c _)) ?_
  refine .mv rfl 27 ?_
  refine .sk rfl 28 ?_
  refine .sk rfl 28 ?_
  refine .sk rfl 28 ?_
  refine .sk rfl 28 ?_
  refine .sk rfl 28 ?_
  refine .e rfl (fun H=>x_pkT (H.g 34 28) (H.c _)) ?_
  refine .dk (fun u=>wwV g::u1 0::u1 1::U::U::U::sq u 0 35 (us 23)) K4 bel fun u2 w2 D bel=>?_
  have E2_34:=D.q 34
  replace B2:=D.k B2
  clear D
  refine wp_cond_true (by exact E2_34) ?_
  refine gs 1 (Amb Z0 W) fun _ K6=>?_
  refine .mc rfl ?_
  refine .dk (fun u=>wwV g::u1 0::u 0::U::U::U::sq u2 0 35 (us 23)) K6 bel fun u3 w3 D bel=>?_
  have E3_0:=D.q 0
  clear D
  exact wp_ret (rt rfl E3_0 rfl bel)
 ·
  have dc5:=of_decide_eq_false c5
  rcases Bool.eq_false_or_eq_true (decide (g.2.natAbs = 0)) with c7 | c7
  ·
   have dc7:=of_decide_eq_true c7
   refine gs 35 (Amb Z0 W) fun _ K4=>?_
   refine .fz rfl 1 0 E1_0 ?_
   refine .lp rfl 0 (wC g.1) B2 ?_
   refine .cK rfl (V:=.bool true) Tryz.func256 (fun H=>⟨_,ar1 (H.g 7 1),reV (congrArg Value.bool (wformed_rw _)) (eFormed (rw g.1))⟩) ?_
   refine .e rfl (V:=.bool false) (fun H=>x_not (H.g 8 2)) ?_
   refine .mv rfl 3 ?_
   refine .fz rfl 1 2 E1_0 ?_ (hg:=gq 4 rfl)
   refine .lp rfl 5 (wC g.2) B2 ?_ (hg:=gq 4 rfl)
   refine .cK rfl (V:=.bool true) Tryz.func256 (fun H=>⟨_,ar1 (H.g 12 6),reV (congrArg Value.bool (wformed_rw _)) (eFormed (rw g.2))⟩) ?_ (hg:=gq 4 rfl)
   refine .e rfl (V:=.bool false) (fun H=>x_not (H.g 13 7)) ?_ (hg:=gq 4 rfl)
   refine .e rfl (fun H=>x_pkF (H.g 10 4) (H.g 14 8)) ?_
   refine .mv rfl 9 ?_
   refine .fz rfl 1 2 E1_0 ?_ (hg:=gq 10 rfl)
   refine .fj rfl 11 2 ?_ (hg:=gq 10 rfl)
   refine .e rfl (V:=.bool false) (fun H=>by have e18:=H.g 18 12; have c1:=cell_of (off:=2) (H.b B2) rfl; have k_:=c5; clear H; go_simp <;> first | (simp_all; done) | omega | exact len_gt z0_) ?_ (hg:=gq 10 rfl)
   refine .e rfl (fun H=>x_pkF (H.g 16 10) (H.g 19 13)) ?_
   refine .mv rfl 14 ?_
   refine .fz rfl 1 2 E1_0 ?_ (hg:=gq 15 rfl)
   refine .fj rfl 16 3 ?_ (hg:=gq 15 rfl)
   refine .lc rfl 17 B2 ?_ (V:=.string (bS g.2.natAbs)) (hg:=gq 15 rfl)
   refine .e rfl (V:=.bool true) (fun H=>by have e24:=H.g 24 18; have k1:=H.c (.string (ByteArray.mk #[])); have s_:=bS_empty g.2.natAbs; have k_:=c7; clear H; go_simp <;> first | (simp_all; done) | omega | exact len_gt z0_) ?_ (hg:=gq 15 rfl)
   refine .e rfl (fun H=>x_pkF (H.g 21 15) (H.g 25 19)) ?_
   refine .mv rfl 20 ?_
   refine .sk rfl 21 ?_
   refine .sk rfl 21 ?_
   refine .sk rfl 21 ?_
   refine .sk rfl 21 ?_
   refine .sk rfl 21 ?_
   refine .e rfl (fun H=>x_pkT (H.g 27 21) (H.c _)) ?_
   refine .mv rfl 27 ?_
   refine .sk rfl 28 ?_
   refine .sk rfl 28 ?_
   refine .sk rfl 28 ?_
   refine .sk rfl 28 ?_
   refine .sk rfl 28 ?_
   refine .e rfl (fun H=>x_pkT (H.g 34 28) (H.c _)) ?_
   refine .dk (fun u=>wwV g::u1 0::u1 1::U::U::U::sq u 0 35 (us 23)) K4 bel fun u2 w2 D bel=>?_
   have E2_34:=D.q 34
   replace B2:=D.k B2
   clear D
   refine wp_cond_true (by exact E2_34) ?_
   refine gs 1 (Amb Z0 W) fun _ K8=>?_
   refine .mc rfl ?_
   refine .dk (fun u=>wwV g::u1 0::u 0::U::U::U::sq u2 0 35 (us 23)) K8 bel fun u3 w3 D bel=>?_
   have E3_0:=D.q 0
   clear D
   exact wp_ret (rt rfl E3_0 rfl bel)
  ·
   have dc7:=of_decide_eq_false c7
   rcases Bool.eq_false_or_eq_true (decide (1024 < (((bS g.1.natAbs).size:Nat):Int))) with c9 | c9
   ·
    have dc9:=of_decide_eq_true c9
    refine gs 35 (Amb Z0 W) fun _ K4=>?_
    refine .fz rfl 1 0 E1_0 ?_
    refine .lp rfl 0 (wC g.1) B2 ?_
    refine .cK rfl (V:=.bool true) Tryz.func256 (fun H=>⟨_,ar1 (H.g 7 1),reV (congrArg Value.bool (wformed_rw _)) (eFormed (rw g.1))⟩) ?_
    refine .e rfl (V:=.bool false) (fun H=>x_not (H.g 8 2)) ?_
    refine .mv rfl 3 ?_
    refine .fz rfl 1 2 E1_0 ?_ (hg:=gq 4 rfl)
    refine .lp rfl 5 (wC g.2) B2 ?_ (hg:=gq 4 rfl)
    refine .cK rfl (V:=.bool true) Tryz.func256 (fun H=>⟨_,ar1 (H.g 12 6),reV (congrArg Value.bool (wformed_rw _)) (eFormed (rw g.2))⟩) ?_ (hg:=gq 4 rfl)
    refine .e rfl (V:=.bool false) (fun H=>x_not (H.g 13 7)) ?_ (hg:=gq 4 rfl)
    refine .e rfl (fun H=>x_pkF (H.g 10 4) (H.g 14 8)) ?_
    refine .mv rfl 9 ?_
    refine .fz rfl 1 2 E1_0 ?_ (hg:=gq 10 rfl)
    refine .fj rfl 11 2 ?_ (hg:=gq 10 rfl)
    refine .e rfl (V:=.bool false) (fun H=>by have e18:=H.g 18 12; have c1:=cell_of (off:=2) (H.b B2) rfl; have k_:=c5; clear H; go_simp <;> first | (simp_all; done) | omega | exact len_gt z0_) ?_ (hg:=gq 10 rfl)
    refine .e rfl (fun H=>x_pkF (H.g 16 10) (H.g 19 13)) ?_
    refine .mv rfl 14 ?_
    refine .fz rfl 1 2 E1_0 ?_ (hg:=gq 15 rfl)
    refine .fj rfl 16 3 ?_ (hg:=gq 15 rfl)
    refine .lc rfl 17 B2 ?_ (V:=.string (bS g.2.natAbs)) (hg:=gq 15 rfl)
    refine .e rfl (V:=.bool false) (fun H=>by have e24:=H.g 24 18; have k1:=H.c (.string (ByteArray.mk #[])); have s_:=bS_empty g.2.natAbs; have k_:=c7; clear H; go_simp <;> first | (simp_all; done) | omega | exact len_gt z0_) ?_ (hg:=gq 15 rfl)
    refine .e rfl (fun H=>x_pkF (H.g 21 15) (H.g 25 19)) ?_
    refine .mv rfl 20 ?_
    refine .fz rfl 1 0 E1_0 ?_ (hg:=gq 21 rfl)
    refine .fj rfl 22 1 ?_ (hg:=gq 21 rfl)
    refine .lc rfl 23 B2 ?_ (V:=.string (bS g.1.natAbs)) (hg:=gq 21 rfl)
    refine .e rfl (V:=.int .i64 (((bS g.1.natAbs).size:Nat):Int)) (fun H=>by have e30:=H.g 30 24; clear H; go_simp) ?_ (hg:=gq 21 rfl)
    refine .e rfl (V:=.bool true) (fun H=>x_cm (H.g 31 25) (H.c _) c9) ?_ (hg:=gq 21 rfl)
    refine .e rfl (fun H=>x_pkF (H.g 27 21) (H.g 32 26)) ?_
    refine .mv rfl 27 ?_
    refine .sk rfl 28 ?_
    refine .sk rfl 28 ?_
    refine .sk rfl 28 ?_
    refine .sk rfl 28 ?_
    refine .sk rfl 28 ?_
    refine .e rfl (fun H=>x_pkT (H.g 34 28) (H.c _)) ?_
    refine .dk (fun u=>wwV g::u1 0::u1 1::U::U::U::sq u 0 35 (us 23)) K4 bel fun u2 w2 D bel=>?_
    have E2_34:=D.q 34
    replace B2:=D.k B2
    clear D
    refine wp_cond_true (by exact E2_34) ?_
    refine gs 1 (Amb Z0 W) fun _ K10=>?_
    refine .mc rfl ?_
    refine .dk (fun u=>wwV g::u1 0::u 0::U::U::U::sq u2 0 35 (us 23)) K10 bel fun u3 w3 D bel=>?_
    have E3_0:=D.q 0
    clear D
    exact wp_ret (rt rfl E3_0 rfl bel)
   ·
    have dc9:=of_decide_eq_false c9
    refine gs 35 (Amb Z0 W) fun _ K4=>?_
    refine .fz rfl 1 0 E1_0 ?_
    refine .lp rfl 0 (wC g.1) B2 ?_
    refine .cK rfl (V:=.bool true) Tryz.func256 (fun H=>⟨_,ar1 (H.g 7 1),reV (congrArg Value.bool (wformed_rw _)) (eFormed (rw g.1))⟩) ?_
    refine .e rfl (V:=.bool false) (fun H=>x_not (H.g 8 2)) ?_
    refine .mv rfl 3 ?_
    refine .fz rfl 1 2 E1_0 ?_ (hg:=gq 4 rfl)
    refine .lp rfl 5 (wC g.2) B2 ?_ (hg:=gq 4 rfl)
    refine .cK rfl (V:=.bool true) Tryz.func256 (fun H=>⟨_,ar1 (H.g 12 6),reV (congrArg Value.bool (wformed_rw _)) (eFormed (rw g.2))⟩) ?_ (hg:=gq 4 rfl)
    refine .e rfl (V:=.bool false) (fun H=>x_not (H.g 13 7)) ?_ (hg:=gq 4 rfl)
    refine .e rfl (fun H=>x_pkF (H.g 10 4) (H.g 14 8)) ?_
    refine .mv rfl 9 ?_
    refine .fz rfl 1 2 E1_0 ?_ (hg:=gq 10 rfl)
    refine .fj rfl 11 2 ?_ (hg:=gq 10 rfl)
    refine .e rfl (V:=.bool false) (fun H=>by have e18:=H.g 18 12; have c1:=cell_of (off:=2) (H.b B2) rfl; have k_:=c5; clear H; go_simp <;> first | (simp_all; done) | omega | exact len_gt z0_) ?_ (hg:=gq 10 rfl)
    refine .e rfl (fun H=>x_pkF (H.g 16 10) (H.g 19 13)) ?_
    refine .mv rfl 14 ?_
    refine .fz rfl 1 2 E1_0 ?_ (hg:=gq 15 rfl)
    refine .fj rfl 16 3 ?_ (hg:=gq 15 rfl)
    refine .lc rfl 17 B2 ?_ (V:=.string (bS g.2.natAbs)) (hg:=gq 15 rfl)
    refine .e rfl (V:=.bool false) (fun H=>by have e24:=H.g 24 18; have k1:=H.c (.string (ByteArray.mk #[])); have s_:=bS_empty g.2.natAbs; have k_:=c7; clear H; go_simp <;> first | (simp_all; done) | omega | exact len_gt z0_) ?_ (hg:=gq 15 rfl)
    refine .e rfl (fun H=>x_pkF (H.g 21 15) (H.g 25 19)) ?_
    refine .mv rfl 20 ?_
    refine .fz rfl 1 0 E1_0 ?_ (hg:=gq 21 rfl)
    refine .fj rfl 22 1 ?_ (hg:=gq 21 rfl)
    refine .lc rfl 23 B2 ?_ (V:=.string (bS g.1.natAbs)) (hg:=gq 21 rfl)
    refine .e rfl (V:=.int .i64 (((bS g.1.natAbs).size:Nat):Int)) (fun H=>by have e30:=H.g 30 24; clear H; go_simp) ?_ (hg:=gq 21 rfl)
    refine .e rfl (V:=.bool false) (fun H=>x_cm (H.g 31 25) (H.c _) c9) ?_ (hg:=gq 21 rfl)
    refine .e rfl (fun H=>x_pkF (H.g 27 21) (H.g 32 26)) ?_
    refine .mv rfl 27 ?_
    refine .fz rfl 1 2 E1_0 ?_ (hg:=gq 28 rfl)
    refine .fj rfl 29 3 ?_ (hg:=gq 28 rfl)
    refine .lc rfl 30 B2 ?_ (V:=.string (bS g.2.natAbs)) (hg:=gq 28 rfl)
    refine .e rfl (V:=.int .i64 (((bS g.2.natAbs).size:Nat):Int)) (fun H=>by have e37:=H.g 37 31; clear H; go_simp) ?_ (hg:=gq 28 rfl)
    refine .e rfl (V:=.bool (decide (1024 < (((bS g.2.natAbs).size:Nat):Int)))) (fun H=>x_cmp (H.g 38 32) (H.c _)) ?_ (hg:=gq 28 rfl)
    refine .e rfl (fun H=>x_pkF (H.g 34 28) (H.g 39 33)) ?_
    refine .dk (fun u=>wwV g::u1 0::u1 1::U::U::U::sq u 0 35 (us 23)) K4 bel fun u2 w2 D bel=>?_
    have E2_34:=D.q 34
    replace B2:=D.k B2
    clear D
    rcases Bool.eq_false_or_eq_true (decide (1024 < (((bS g.2.natAbs).size:Nat):Int))) with c11 | c11
    ·
     refine wp_cond_true ((E2_34).trans (congrArg Value.bool c11)) ?_
     have dc11:=of_decide_eq_true c11
     refine gs 1 (Amb Z0 W) fun _ K12=>?_
     refine .mc rfl ?_
     refine .dk (fun u=>wwV g::u1 0::u 0::U::U::U::sq u2 0 35 (us 23)) K12 bel fun u3 w3 D bel=>?_
     have E3_0:=D.q 0
     clear D
     exact wp_ret (rt rfl E3_0 rfl bel)
    ·
     refine wp_cond_false ((E2_34).trans (congrArg Value.bool c11)) ?_
     have dc11:=of_decide_eq_false c11
     refine wp_skip ?_
     refine K3 _ _ ?_
     refine gd 8 (Amb Z0 W) fun _ K13=>?_
     refine .fz rfl 1 0 E1_0 ?_
     refine .lp rfl 0 (wC g.1) B2 ?_
     refine .cR rfl [] Tryz.func257 (fun H=>⟨_,ar1 (H.g 42 1),eWhole _ (by first | omega | (have g0:=ht_dvI (a:=g.1) (show 0 < g.2 by omega) (Nat.le_refl (max (hi g.1) (hi g.2))); omega))⟩) ?_
     refine .fz rfl 1 2 E1_0 ?_
     refine .lp rfl 3 (wC g.2) B2 ?_
     refine .cR rfl [] Tryz.func257 (fun H=>⟨_,ar1 (H.g 45 4),eWhole _ (by first | omega | (have g0:=ht_dvI (a:=g.1) (show 0 < g.2 by omega) (Nat.le_refl (max (hi g.1) (hi g.2))); omega))⟩) ?_
     refine .mn rfl 2 [2] ?_
     refine .mn rfl 5 [5] ?_
     refine .dk (fun u=>wwV g::u1 0::u1 1::u 6::u 7::U::sq u2 0 35 (sq u 0 6 (us 17))) K13 bel fun u4 w4 D bel=>?_
     obtain ⟨b14,E4_6,L14,F14⟩:=IntO.elim (D.rr 6)
     obtain ⟨b15,E4_7,L15,F15⟩:=IntO.elim (D.rr 7)
     clear D
     refine gs 5 (Amb Z0 W) fun _ K16=>?_
     refine .al rfl zQ ?_
     refine .mz rfl 3 E4_6 ?_
     refine .mz rfl 4 E4_7 ?_
     refine .cO rfl 0 Tryz.func234 (fun H h0 hz=>⟨_,ar3 (H.p 47 0 h0) (H.g 48 1) (H.g 49 2),qSetFrac _ _ (RatBlk.of hz) (IntO.p (VP.any _ (H.was _ [] (VP.at F14 L14)))) (IntO.p (VP.any _ (H.was _ [] (VP.at F15 L15)))) (by first | omega | (have g0:=ht_dvI (a:=g.1) (show 0 < g.2 by omega) (Nat.le_refl (max (hi g.1) (hi g.2))); omega)) (by first | omega | (have g0:=ht_dvI (a:=g.1) (show 0 < g.2 by omega) (Nat.le_refl (max (hi g.1) (hi g.2))); omega))⟩) ?_
     refine .mo rfl 3 ?_
     refine .dk (fun u=>wwV g::u1 0::u1 1::u4 6::u4 7::u 4::sq u2 0 35 (sq u4 0 6 (sq u 0 4 (us 13)))) K16 bel fun u5 w5 D bel=>?_
     obtain ⟨b17,E5_4,A17,F17⟩:=D.ow 4
     replace F14:=D.o L14 F14
     replace F15:=D.o L15 F15
     have L17:Amb Z0 W b17:=.inr A17
     clear D
     refine wp_seq_k fun _ K18=>?_
     rcases Bool.eq_false_or_eq_true ((icmp ((Rat.divInt g.1 g.2).num) g.1) != 0) with c20 | c20
     ·
      refine gs 12 (Amb Z0 W) fun _ K19=>?_
      refine .mz rfl 5 E5_4 ?_
      refine .cR rfl [] Tryz.func258 (fun H=>⟨_,ar1 (H.g 51 0),qNum _ (H.was _ [] (VP.at F17 L17)) (by first | omega | (have g0:=ht_dvI (a:=g.1) (show 0 < g.2 by omega) (Nat.le_refl (max (hi g.1) (hi g.2))); omega))⟩) ?_
      refine .mz rfl 3 E4_6 ?_
      refine .cK rfl Tryz.func251 (fun H=>⟨_,ar2 (H.r 52 1) (H.g 53 2),bCmp _ _ (IntO.p (SV.any (H.a 1 rfl))) (IntO.p (VP.any _ (H.was _ [] (VP.at F14 L14)))) (by first | omega | (have g0:=ht_dvI (a:=g.1) (show 0 < g.2 by omega) (Nat.le_refl (max (hi g.1) (hi g.2))); omega))⟩) ?_
      refine .e rfl (V:=.bool true) (fun H=>x_cm (H.g 54 3) (H.c _) c20) ?_
      refine .mv rfl 4 ?_
      refine .sk rfl 5 ?_
      refine .sk rfl 5 ?_
      refine .sk rfl 5 ?_
      refine .sk rfl 5 ?_
      refine .sk rfl 5 ?_
      refine .e rfl (fun H=>x_pkT (H.g 56 5) (H.c _)) ?_
      refine .dk (fun u=>wwV g::u1 0::u1 1::u4 6::u4 7::u5 4::sq u2 0 35 (sq u4 0 6 (sq u5 0 4 (sq u 0 12 (U::[]))))) K19 bel fun u6 w6 D bel=>?_
      have E6_11:=D.q 11
      replace F17:=D.o L17 F17
      clear D
      refine wp_cond_true (by exact E6_11) ?_
      refine gs 1 (Amb Z0 W) fun _ K21=>?_
      refine .mc rfl ?_
      refine .dk (fun u=>wwV g::u1 0::u 0::u4 6::u4 7::u5 4::sq u2 0 35 (sq u4 0 6 (sq u5 0 4 (sq u6 0 12 (U::[]))))) K21 bel fun u7 w7 D bel=>?_
      have E7_0:=D.q 0
      clear D
      exact wp_ret (rt rfl E7_0 rfl bel)
     ·
      refine gs 12 (Amb Z0 W) fun _ K19=>?_
      refine .mz rfl 5 E5_4 ?_
      refine .cR rfl [] Tryz.func258 (fun H=>⟨_,ar1 (H.g 51 0),qNum _ (H.was _ [] (VP.at F17 L17)) (by first | omega | (have g0:=ht_dvI (a:=g.1) (show 0 < g.2 by omega) (Nat.le_refl (max (hi g.1) (hi g.2))); omega))⟩) ?_
      refine .mz rfl 3 E4_6 ?_
      refine .cK rfl Tryz.func251 (fun H=>⟨_,ar2 (H.r 52 1) (H.g 53 2),bCmp _ _ (IntO.p (SV.any (H.a 1 rfl))) (IntO.p (VP.any _ (H.was _ [] (VP.at F14 L14)))) (by first | omega | (have g0:=ht_dvI (a:=g.1) (show 0 < g.2 by omega) (Nat.le_refl (max (hi g.1) (hi g.2))); omega))⟩) ?_
      refine .e rfl (V:=.bool false) (fun H=>x_cm (H.g 54 3) (H.c _) c20) ?_
      refine .mv rfl 4 ?_
      refine .mz rfl 5 E5_4 ?_ (hg:=gq 5 rfl)
      refine .cR rfl [] Tryz.func259 (fun H=>⟨_,ar1 (H.g 57 6),qDenom _ (H.was _ [] (VP.at F17 L17)) (by first | omega | (have g0:=ht_dvI (a:=g.1) (show 0 < g.2 by omega) (Nat.le_refl (max (hi g.1) (hi g.2))); omega))⟩) ?_ (hg:=gq 5 rfl)
      refine .mz rfl 4 E4_7 ?_ (hg:=gq 5 rfl)
      refine .cK rfl Tryz.func251 (fun H=>⟨_,ar2 (H.r 58 7) (H.g 59 8),bCmp _ _ (IntO.p (SV.any (H.a 7 rfl))) (IntO.p (VP.any _ (H.was _ [] (VP.at F15 L15)))) (by first | omega | (have g0:=ht_dvI (a:=g.1) (show 0 < g.2 by omega) (Nat.le_refl (max (hi g.1) (hi g.2))); omega))⟩) ?_ (hg:=gq 5 rfl)
      refine .e rfl (V:=.bool ((icmp ((Rat.divInt g.1 g.2).den:Int) g.2) != 0)) (fun H=>x_cmp (H.g 60 9) (H.c _)) ?_ (hg:=gq 5 rfl)
      refine .e rfl (fun H=>x_pkF (H.g 56 5) (H.g 61 10)) ?_
      refine .dk (fun u=>wwV g::u1 0::u1 1::u4 6::u4 7::u5 4::sq u2 0 35 (sq u4 0 6 (sq u5 0 4 (sq u 0 12 (U::[]))))) K19 bel fun u6 w6 D bel=>?_
      have E6_11:=D.q 11
      replace F17:=D.o L17 F17
      clear D
      rcases Bool.eq_false_or_eq_true ((icmp ((Rat.divInt g.1 g.2).den:Int) g.2) != 0) with c22 | c22
      ·
       refine wp_cond_true ((E6_11).trans (congrArg Value.bool c22)) ?_
       refine gs 1 (Amb Z0 W) fun _ K23=>?_
       refine .mc rfl ?_
       refine .dk (fun u=>wwV g::u1 0::u 0::u4 6::u4 7::u5 4::sq u2 0 35 (sq u4 0 6 (sq u5 0 4 (sq u6 0 12 (U::[]))))) K23 bel fun u7 w7 D bel=>?_
       have E7_0:=D.q 0
       clear D
       exact wp_ret (rt rfl E7_0 rfl bel)
      ·
       refine wp_cond_false ((E6_11).trans (congrArg Value.bool c22)) ?_
       refine wp_skip ?_
       refine K18 _ _ ?_
       refine gs 2 (Amb Z0 W) fun _ K24=>?_
       refine .mz rfl 5 E5_4 ?_
       refine .mv rfl 0 ?_
       refine .dk (fun u=>wwV g::u1 0::u 1::u4 6::u4 7::u5 4::sq u2 0 35 (sq u4 0 6 (sq u5 0 4 (sq u6 0 12 (u 0::[]))))) K24 bel fun u8 w8 D bel=>?_
       have E8_1:=D.q 1
       replace F17:=D.o L17 F17
       clear D
       exact wp_ret (rt rfl E8_1 (Bool.noConfusion ((ratw_yes dc5 dc7 dc9 dc11 c20 c22).symm.trans p0)) bel)
end Go.Proofs.YtcpjdjnaipbieaaGreat
namespace Go.Proofs.YtcpjdjnaipbieaaGreat
open Go.RowKit Rgn
theorem eRatF {W:World} (r:RF) (p0:fmay r = false):Calls Tryz.prog 198 #[rfV r] W (RetV (.pointer none) W):=by
 cases h0:wformed r.a with
 | false=>exact eRatF0 r h0
 | true =>
  cases h1:wformed r.b with
  | false=>exact eRatF1 r h0 h1
  | true =>
   obtain ⟨a,b⟩:=r
   obtain ⟨x,rfl⟩:=wformed_ex h0
   obtain ⟨y,rfl⟩:=wformed_ex h1
   exact eRatW (x,y) p0
theorem eRatT {S:Nat → Prop} {W:World} (r:RF) (p0:fmay r = true):Calls Tryz.prog 198 #[rfV r] W (Ret (RatP (valM r)) S W):=by
 obtain ⟨q,rfl⟩:=fmay_ex p0
 rw [valM_rf p0]
 exact eRatOk q (and_tt p0).1
end Go.Proofs.YtcpjdjnaipbieaaGreat
namespace Go.Proofs.YtcpjdjnaipbieaaGreat
open Go.RowKit Rgn
set_option maxHeartbeats 4000000
set_option maxRecDepth 100000
variable {S:Nat → Prop} {W:World}
theorem eOfR (r:RG) :
  Calls Tryz.prog 197 #[rgV r] W (Ret (VP.tup (NumP (gvm r)) (VP.is (.bool (gmay r)))) S W):=by
 have bel:=b0 W
 go_enter Tryz.func197,Tryz.ntmps197
 rcases Bool.eq_false_or_eq_true (fmay r.re) with c1 | c1
 ·
  rcases Bool.eq_false_or_eq_true (fmay r.im) with c2 | c2
  ·
   refine gs 3 (Amb S W) fun _ K3=>?_
   refine .bx rfl (fun H=>H.v 0 (rgV r)) ?_
   refine .al rfl (#[.pointer none,.pointer none]) ?_
   refine .mc rfl ?_
   refine .dk (fun u=>rgV r::sq u 0 3 (us 17)) K3 bel fun u1 w1 D bel=>?_
   obtain ⟨b4,E1_0,A4,B4⟩:=D.nw 0
   obtain ⟨b5,E1_1,A5,B5⟩:=D.nw 1
   have E1_2:=D.q 2
   have N4_5:=D.n2 0 1 E1_0 E1_1
   clear D
   refine gd 8 (Amb S W) fun _ K6=>?_
   refine .fz rfl 1 0 E1_0 ?_
   refine .lp rfl 0 (rfC r.re) B4 ?_
   refine .cR rfl [] Tryz.func198 (fun H=>⟨_,ar1 (H.g 7 1),eRatT _ (by first | assumption | omega)⟩) ?_
   refine .fz rfl 1 4 E1_0 ?_
   refine .lp rfl 3 (rfC r.im) B4 ?_
   refine .cR rfl [] Tryz.func198 (fun H=>⟨_,ar1 (H.g 10 4),eRatT _ (by first | assumption | omega)⟩) ?_
   refine .mn rfl 2 [2] ?_
   refine .mn rfl 5 [5] ?_
   refine .dk (fun u=>rgV r::sq u1 0 3 (u 6::u 7::sq u 0 6 (us 9))) K6 bel fun u2 w2 D bel=>?_
   obtain ⟨b7,E2_6,L7,F7⟩:=RatP.elim (D.rr 6)
   obtain ⟨b8,E2_7,L8,F8⟩:=RatP.elim (D.rr 7)
   replace B5:=D.k B5
   clear D
   refine gs1 11 (Amb S W) 9 B5 fun _ K9=>?_
   refine .mz rfl 4 E2_6 ?_
   refine .mz rfl 5 E2_7 ?_
   refine .e rfl (V:=.agg #[pt b7,pt b8]) (fun H=>by have e12:=H.g 12 0; have e13:=H.g 13 1; clear H; go_simp) ?_
   refine .mz rfl 4 E2_6 ?_
   refine .e rfl (V:=.bool true) (fun H=>x_pnN (H.g 15 3) (H.c _)) ?_
   refine .mv rfl 4 ?_
   refine .mz rfl 5 E2_7 ?_ (hg:=gq 5 rfl)
   refine .e rfl (V:=.bool true) (fun H=>x_pnN (H.g 18 6) (H.c _)) ?_ (hg:=gq 5 rfl)
   refine .e rfl (fun H=>x_pkT (H.g 17 5) (H.g 19 7)) ?_
   refine .s1 rfl B5 (fun H=>⟨H.z 2 E1_1,H.g 14 2⟩) ?_
   refine .mv rfl 8 ?_
   refine .d1 (fun u=>rgV r::u1 0::u1 1::u 10::u2 6::u2 7::sq u2 0 6 (sq u 0 9 [])) K9 bel A5 fun u3 w3 D bel=>?_
   have E3_10:=D.q 10
   replace B5:=D.ol 9
   replace F7:=D.o L7 F7
   replace F8:=D.o L8 F8
   clear D
   refine wp_ret ?_
   refine ret_ok rfl (by exact results_mix rfl (by exact E1_1) B5 Tryz.underlying178 rfl (by kernel_rfl) (by exact E3_10)) ⟨_,rfl,?_,bel⟩
   exact ⟨_,_,rfl,(NumP.mk (RatP.n (VP.at F7 L7)) (RatP.n (VP.at F8 L8))),(by unfold gmay; rw [c1,c2]; rfl)⟩
  ·
   refine gs 3 (Amb S W) fun _ K10=>?_
   refine .bx rfl (fun H=>H.v 0 (rgV r)) ?_
   refine .al rfl (#[.pointer none,.pointer none]) ?_
   refine .mc rfl ?_
   refine .dk (fun u=>rgV r::sq u 0 3 (us 17)) K10 bel fun u1 w1 D bel=>?_
   obtain ⟨b11,E1_0,A11,B11⟩:=D.nw 0
   obtain ⟨b12,E1_1,A12,B12⟩:=D.nw 1
   have E1_2:=D.q 2
   have N11_12:=D.n2 0 1 E1_0 E1_1
   clear D
   refine gd 8 (Amb S W) fun _ K13=>?_
   refine .fz rfl 1 0 E1_0 ?_
   refine .lp rfl 0 (rfC r.re) B11 ?_
   refine .cR rfl [] Tryz.func198 (fun H=>⟨_,ar1 (H.g 7 1),eRatT _ (by first | assumption | omega)⟩) ?_
   refine .fz rfl 1 4 E1_0 ?_
   refine .lp rfl 3 (rfC r.im) B11 ?_
   refine .cK rfl Tryz.func198 (fun H=>⟨_,ar1 (H.g 10 4),eRatF _ (by first | assumption | omega)⟩) ?_
   refine .mn rfl 2 [2] ?_
   refine .mv rfl 5 ?_
   refine .dk (fun u=>rgV r::sq u1 0 3 (u 6::u 7::sq u 0 6 (us 9))) K13 bel fun u2 w2 D bel=>?_
   obtain ⟨b14,E2_6,L14,F14⟩:=RatP.elim (D.rr 6)
   have E2_7:=D.q 7
   replace B12:=D.k B12
   clear D
   refine gs1 11 (Amb S W) 9 B12 fun _ K15=>?_
   refine .mz rfl 4 E2_6 ?_
   refine .mz rfl 5 E2_7 ?_
   refine .e rfl (V:=.agg #[pt b14,.pointer none]) (fun H=>by have e12:=H.g 12 0; have e13:=H.g 13 1; clear H; go_simp) ?_
   refine .mz rfl 4 E2_6 ?_
   refine .e rfl (V:=.bool true) (fun H=>x_pnN (H.g 15 3) (H.c _)) ?_
   refine .mv rfl 4 ?_
   refine .mz rfl 5 E2_7 ?_ (hg:=gq 5 rfl)
   refine .e rfl (V:=.bool false) (fun H=>x_nnN (H.g 18 6) (H.c _)) ?_ (hg:=gq 5 rfl)
   refine .e rfl (fun H=>x_pkT (H.g 17 5) (H.g 19 7)) ?_
   refine .s1 rfl B12 (fun H=>⟨H.z 2 E1_1,H.g 14 2⟩) ?_
   refine .mv rfl 8 ?_
   refine .d1 (fun u=>rgV r::u1 0::u1 1::u 10::u2 6::u2 7::sq u2 0 6 (sq u 0 9 [])) K15 bel A12 fun u3 w3 D bel=>?_
   have E3_10:=D.q 10
   replace B12:=D.ol 9
   replace F14:=D.o L14 F14
   clear D
   refine wp_ret ?_
   refine ret_ok rfl (by exact results_mix rfl (by exact E1_1) B12 Tryz.underlying178 rfl (by kernel_rfl) (by exact E3_10)) ⟨_,rfl,?_,bel⟩
   exact ⟨_,_,rfl,(NumP.mk (RatP.n (VP.at F14 L14)) (.inl ⟨rfl,by first | exact valM_no c1 | exact valM_no c2⟩)),(by unfold gmay; rw [c1,c2]; rfl)⟩
 ·
  rcases Bool.eq_false_or_eq_true (fmay r.im) with c16 | c16
  ·
   refine gs 3 (Amb S W) fun _ K17=>?_
   refine .bx rfl (fun H=>H.v 0 (rgV r)) ?_
   refine .al rfl (#[.pointer none,.pointer none]) ?_
   refine .mc rfl ?_
   refine .dk (fun u=>rgV r::sq u 0 3 (us 17)) K17 bel fun u1 w1 D bel=>?_
   obtain ⟨b18,E1_0,A18,B18⟩:=D.nw 0
   obtain ⟨b19,E1_1,A19,B19⟩:=D.nw 1
   have E1_2:=D.q 2
   have N18_19:=D.n2 0 1 E1_0 E1_1
   clear D
   refine gd 8 (Amb S W) fun _ K20=>?_
   refine .fz rfl 1 0 E1_0 ?_
   refine .lp rfl 0 (rfC r.re) B18 ?_
   refine .cK rfl Tryz.func198 (fun H=>⟨_,ar1 (H.g 7 1),eRatF _ (by first | assumption | omega)⟩) ?_
   refine .fz rfl 1 4 E1_0 ?_
   refine .lp rfl 3 (rfC r.im) B18 ?_
   refine .cR rfl [] Tryz.func198 (fun H=>⟨_,ar1 (H.g 10 4),eRatT _ (by first | assumption | omega)⟩) ?_
   refine .mv rfl 2 ?_
   refine .mn rfl 5 [5] ?_
   refine .dk (fun u=>rgV r::sq u1 0 3 (u 6::u 7::sq u 0 6 (us 9))) K20 bel fun u2 w2 D bel=>?_
   obtain ⟨b21,E2_7,L21,F21⟩:=RatP.elim (D.rr 7)
   have E2_6:=D.q 6
   replace B19:=D.k B19
   clear D
   refine gs1 11 (Amb S W) 9 B19 fun _ K22=>?_
   refine .mz rfl 4 E2_6 ?_
   refine .mz rfl 5 E2_7 ?_
   refine .e rfl (V:=.agg #[.pointer none,pt b21]) (fun H=>by have e12:=H.g 12 0; have e13:=H.g 13 1; clear H; go_simp) ?_
   refine .mz rfl 4 E2_6 ?_
   refine .e rfl (V:=.bool false) (fun H=>x_nnN (H.g 15 3) (H.c _)) ?_
   refine .mv rfl 4 ?_
   refine .sk rfl 5 ?_
   refine .sk rfl 5 ?_
   refine .e rfl (fun H=>x_pkF (H.g 17 5) (H.c _)) ?_
   refine .s1 rfl B19 (fun H=>⟨H.z 2 E1_1,H.g 14 2⟩) ?_
   refine .mv rfl 8 ?_
   refine .d1 (fun u=>rgV r::u1 0::u1 1::u 10::u2 6::u2 7::sq u2 0 6 (sq u 0 9 [])) K22 bel A19 fun u3 w3 D bel=>?_
   have E3_10:=D.q 10
   replace B19:=D.ol 9
   replace F21:=D.o L21 F21
   clear D
   refine wp_ret ?_
   refine ret_ok rfl (by exact results_mix rfl (by exact E1_1) B19 Tryz.underlying178 rfl (by kernel_rfl) (by exact E3_10)) ⟨_,rfl,?_,bel⟩
   exact ⟨_,_,rfl,(NumP.mk (.inl ⟨rfl,by first | exact valM_no c1 | exact valM_no c16⟩) (RatP.n (VP.at F21 L21))),(by unfold gmay; rw [c1,c16]; rfl)⟩
  ·
   refine gs 3 (Amb S W) fun _ K23=>?_
   refine .bx rfl (fun H=>H.v 0 (rgV r)) ?_
   refine .al rfl (#[.pointer none,.pointer none]) ?_
   refine .mc rfl ?_
   refine .dk (fun u=>rgV r::sq u 0 3 (us 17)) K23 bel fun u1 w1 D bel=>?_
   obtain ⟨b24,E1_0,A24,B24⟩:=D.nw 0
   obtain ⟨b25,E1_1,A25,B25⟩:=D.nw 1
   have E1_2:=D.q 2
   have N24_25:=D.n2 0 1 E1_0 E1_1
   clear D
   refine gd 8 (Amb S W) fun _ K26=>?_
   refine .fz rfl 1 0 E1_0 ?_
   refine .lp rfl 0 (rfC r.re) B24 ?_
   refine .cK rfl Tryz.func198 (fun H=>⟨_,ar1 (H.g 7 1),eRatF _ (by first | assumption | omega)⟩) ?_
   refine .fz rfl 1 4 E1_0 ?_
   refine .lp rfl 3 (rfC r.im) B24 ?_
   refine .cK rfl Tryz.func198 (fun H=>⟨_,ar1 (H.g 10 4),eRatF _ (by first | assumption | omega)⟩) ?_
   refine .mv rfl 2 ?_
   refine .mv rfl 5 ?_
   refine .dk (fun u=>rgV r::sq u1 0 3 (u 6::u 7::sq u 0 6 (us 9))) K26 bel fun u2 w2 D bel=>?_
   have E2_6:=D.q 6
   have E2_7:=D.q 7
   replace B25:=D.k B25
   clear D
   refine gs1 11 (Amb S W) 9 B25 fun _ K27=>?_
   refine .mz rfl 4 E2_6 ?_
   refine .mz rfl 5 E2_7 ?_
   refine .e rfl (V:=.agg #[.pointer none,.pointer none]) (fun H=>by have e12:=H.g 12 0; have e13:=H.g 13 1; clear H; go_simp) ?_
   refine .mz rfl 4 E2_6 ?_
   refine .e rfl (V:=.bool false) (fun H=>x_nnN (H.g 15 3) (H.c _)) ?_
   refine .mv rfl 4 ?_
   refine .sk rfl 5 ?_
   refine .sk rfl 5 ?_
   refine .e rfl (fun H=>x_pkF (H.g 17 5) (H.c _)) ?_
   refine .s1 rfl B25 (fun H=>⟨H.z 2 E1_1,H.g 14 2⟩) ?_
   refine .mv rfl 8 ?_
   refine .d1 (fun u=>rgV r::u1 0::u1 1::u 10::u2 6::u2 7::sq u2 0 6 (sq u 0 9 [])) K27 bel A25 fun u3 w3 D bel=>?_
   have E3_10:=D.q 10
   replace B25:=D.ol 9
   clear D
   refine wp_ret ?_
   refine ret_ok rfl (by exact results_mix rfl (by exact E1_1) B25 Tryz.underlying178 rfl (by kernel_rfl) (by exact E3_10)) ⟨_,rfl,?_,bel⟩
   exact ⟨_,_,rfl,(NumP.mk (.inl ⟨rfl,by first | exact valM_no c1 | exact valM_no c16⟩) (.inl ⟨rfl,by first | exact valM_no c1 | exact valM_no c16⟩)),(by unfold gmay; rw [c1,c16]; rfl)⟩
theorem eWheelY (c:Ci) (p0:cifits (rci c) = true) (p1:c.pos = true) :
  Calls Tryz.prog 155 #[ciV c] W (Ret (VP.tup (RingP c) (VP.is (.bool (decide (c.nrm = c))))) S W):=by
 have f:=cifits_ht p0
 have h1:=nrm_ht c
 have h2:=piv_ht c
 unfold Ci.hh Cx.hh at h2
 have bel:=b0 W
 go_enter Tryz.func155,Tryz.ntmps155
 refine gs 3 (Amb S W) fun _ K1=>?_
 refine .bx rfl (fun H=>H.v 0 (ciV c)) ?_
 refine .al rfl (#[.pointer none,.pointer none,.pointer none,.pointer none]) ?_
 refine .mc rfl ?_
 refine .dk (fun u=>ciV c::sq u 0 3 (us 41)) K1 bel fun u1 w1 D bel=>?_
 obtain ⟨b2,E1_0,A2,B2⟩:=D.nw 0
 obtain ⟨b3,E1_1,A3,B3⟩:=D.nw 1
 have E1_2:=D.q 2
 have N2_3:=D.n2 0 1 E1_0 E1_1
 clear D
 refine gs 9 (Amb S W) fun _ K4=>?_
 refine .fz rfl 1 4 E1_0 ?_
 refine .lp rfl 0 (gC c.b) B2 ?_
 refine .cR rfl [] Tryz.func197 (fun H=>⟨_,ar1 (H.g 9 1),eOf _ (by first | omega | exact (and_3 p0).1 | exact (and_3 p0).2.1 | exact (and_3 p0).2.2 | exact pos_flat p1)⟩) ?_
 refine .mn rfl 2 [2] ?_
 refine Go2.fn (i:=4) rfl (G0 rfl) (.val 4 [2,3] (NumP c.b)) (fun u μ ρ H=>by have e7:=H.r 7 3; have h0:=(H.a 3 rfl); obtain ⟨x0,x1,h1,h2⟩:=h0; rw [h1] at e7; exact ⟨x0,by clear H; go_simp,SP.tupKeep (by decide) (by decide) h2.1⟩) ?_
 refine .e rfl (V:=.bool true) (fun H=>by have e7:=H.r 7 3; have h0:=(H.a 3 rfl); obtain ⟨x0,x1,h1,h2,h3⟩:=h0; rw [h1] at e7; have h3:x1 = .bool true:=h3; subst h3; clear H; go_simp) ?_
 refine .al rfl (#[.pointer none,.pointer none]) ?_
 refine Go2.storeOwn (i:=7) (m:=6) rfl rfl (.head _) (SP.cells 6 [4] (fun u=>#[((u 4).v.cells.getD 0 undef),((u 4).v.cells.getD 1 undef)]) 178 (by intro u u' h; simp [h 4 (by simp)])) (fun u μ ρ b H h0 hB hb=>?_) ?_
 · have e4:=H.r 4 6; have e11:=H.r 11 4
   rw [h0] at e4
   obtain ⟨x1,x2,h1,h2,h3⟩:=(H.a 4 rfl)
   have o1:=VP1.ratn h2
   have o2:=VP1.ratn h3
   rw [h1] at e11
   refine ⟨μ.setRow b #[x1,x2],ex_store_row 178 _ _ rfl e4 e11 hb (by kernel_rfl) rfl (by simp [o1,o2]),fun g=>⟨b,?_,hB,?_⟩,setRow_only _ _ _⟩
   · rw [upd_other _ _ (by decide)]; exact h0
   · rw [setRow_at hb]; try simp [upd,h1,Value.cells]
 refine .mv rfl 5 ?_
 refine .dk (fun u=>ciV c::sq u1 0 3 (u 6::u 8::U::u 3::sq u 0 3 (u 4::u 5::us 32))) K4 bel fun u2 w2 D bel=>?_
 obtain ⟨x5,x6,E2_4,F_x5,F_x6⟩:=(D.rr 4)
 obtain ⟨b7,E2_6,A7,B7⟩:=(D.a 7 rfl)
 replace A7:=le2 D.le A7
 have E2_8:=D.q 8
 have N3_7:=D.n1 6 (lt_of B3) E2_6
 replace B2:=D.k B2
 replace B3:=D.k B3
 simp only [Value.cells,E2_4,E2_6] at B7
 replace B7:w2.heap[b7]? = some (.cells #[x5,x6] 178 (0,0)):=B7
 clear D
 refine gd 10 (Amb S W) fun _ K8=>?_
 refine .fz rfl 1 0 E1_0 ?_
 refine .lp rfl 0 (fC c.a) B2 ?_
 refine .cR rfl [] Tryz.func198 (fun H=>⟨_,ar1 (H.g 14 1),eRatOk _ (by first | omega | exact (and_3 p0).1 | exact (and_3 p0).2.1 | exact (and_3 p0).2.2 | exact pos_flat p1)⟩) ?_
 refine .lr rfl 4 E2_6 B7 ?_
 refine .fz rfl 1 12 E1_0 ?_
 refine .lp rfl 4 (fC c.c) B2 ?_
 refine .cR rfl [] Tryz.func198 (fun H=>⟨_,ar1 (H.g 18 5),eRatOk _ (by first | omega | exact (and_3 p0).1 | exact (and_3 p0).2.1 | exact (and_3 p0).2.2 | exact pos_flat p1)⟩) ?_
 refine Go2.fn (i:=7) rfl (G0 rfl) (SP.fnL 7 [2,6] (fun u=>.agg #[(u 2).v,x5,x6,(u 6).v]) (by intro u u' h; simp [h 2 (by simp),h 6 (by simp)])) (fun u μ ρ H=>⟨_,by have e15:=H.r 15 2; have e16:=H.g 16 3; have e19:=H.r 19 6; obtain ⟨x2,h2⟩:=RatP.isPtr (H.a 2 rfl); obtain ⟨x6,h6⟩:=RatP.isPtr (H.a 6 rfl); clear H; go_simp,SP.fnL_upd (by decide)⟩) ?_
 refine .al rfl (#[.pointer none,.pointer none,.pointer none,.pointer none]) ?_
 refine Go2.storeOwn (i:=9) (m:=8) rfl rfl (.head _) (SP.cells 8 [2,6] (fun u=>#[(u 2).v,x5,x6,(u 6).v]) 203 (by intro u u' h; simp [h 2 (by simp),h 6 (by simp)])) (fun u μ ρ b H h0 hB hb=>?_) ?_
 · have e6:=H.r 6 8; have e20:=H.e 20 7 (by kernel_rfl) (H.a 7 rfl); have o2:=VP1.rat (H.a 2 rfl); have o_x5:=VP1.ratn F_x5; have o_x6:=VP1.ratn F_x6; have o6:=VP1.rat (H.a 6 rfl)
   rw [h0] at e6
   refine ⟨μ.setRow b #[(u 2).v,x5,x6,(u 6).v],ex_store_row 203 _ _ rfl e6 e20 hb (by kernel_rfl) rfl (by simp [o2,o_x5,o_x6,o6] <;> rfl),fun g=>⟨b,?_,hB,?_⟩,setRow_only _ _ _⟩
   · rw [upd_other _ _ (by decide)]; exact h0
   · rw [setRow_at hb]; try simp [upd]
 refine .dk (fun u=>ciV c::sq u1 0 3 (u2 6::u2 8::u 8::u2 3::sq u2 0 3 (u2 4::u2 5::sq u 0 8 (us 24)))) K8 bel fun u3 w3 D bel=>?_
 obtain ⟨b9,E3_2,L9,F9⟩:=RatP.elim (D.rr 2)
 obtain ⟨b10,E3_6,L10,F10⟩:=RatP.elim (D.rr 6)
 obtain ⟨b11,E3_8,A11,B11⟩:=(D.a 9 rfl)
 replace A11:=le2 D.le A11
 have N3_11:=D.n1 8 (lt_of B3) E3_8
 replace B3:=D.k B3
 simp only [Value.cells,E3_2,E3_6,E3_8] at B11
 replace F_x5:=D.gr (RatN c.b.re) F_x5
 replace F_x6:=D.gr (RatN c.b.im) F_x6
 clear D
 refine wp_seq_k fun _ K12=>?_
 refine gs 18 (Amb S W) fun _ K13=>?_
 refine .mz rfl 5 E2_8 ?_
 refine .e rfl (V:=.bool false) (fun H=>x_not (H.g 21 0)) ?_
 refine .mv rfl 1 ?_
 refine .fz rfl 6 0 E3_8 ?_ (hg:=gq 2 rfl)
 refine .lc rfl 3 B11 ?_ (V:=pt b9) (hg:=gq 2 rfl)
 refine .e rfl (V:=.bool false) (fun H=>x_pnE (H.g 25 4) (H.c _)) ?_ (hg:=gq 2 rfl)
 refine .e rfl (fun H=>x_pkF (H.g 23 2) (H.g 26 5)) ?_
 refine .mv rfl 6 ?_
 refine .fz rfl 6 3 E3_8 ?_ (hg:=gq 7 rfl)
 refine .lc rfl 8 B11 ?_ (V:=pt b10) (hg:=gq 7 rfl)
 refine .e rfl (V:=.bool false) (fun H=>x_pnE (H.g 30 9) (H.c _)) ?_ (hg:=gq 7 rfl)
 refine .e rfl (fun H=>x_pkF (H.g 28 7) (H.g 31 10)) ?_
 refine .mv rfl 11 ?_
 refine .lr rfl 6 E3_8 B11 ?_ (hg:=gq 12 rfl)
 refine .cR rfl [] Tryz.func141 (fun H=>⟨_,ar1 (H.g 34 13),rgPow c (RingP.mk (H.was _ [] (VP.at F9 L9)) (H.was _ [] F_x5) (H.was _ [] F_x6) (H.was _ [] (VP.at F10 L10))) (by first | omega | exact (and_3 p0).1 | exact (and_3 p0).2.1 | exact (and_3 p0).2.2 | exact pos_flat p1)⟩) ?_ (hg:=gq 12 rfl)
 refine .cK rfl Tryz.func140 (fun H=>⟨_,ar1 (H.r 35 14),qSign _ (SV.any (H.a 14 rfl))⟩) ?_ (hg:=gq 12 rfl)
 refine .e rfl (V:=.bool false) (fun H=>x_cm (H.g 36 15) (H.c _) (pos_le p1)) ?_ (hg:=gq 12 rfl)
 refine .e rfl (fun H=>x_pkF (H.g 33 12) (H.g 37 16)) ?_
 refine .dk (fun u=>ciV c::sq u1 0 3 (u2 6::u2 8::u3 8::u2 3::sq u2 0 3 (u2 4::u2 5::sq u3 0 8 (sq u 0 18 (us 6))))) K13 bel fun u4 w4 D bel=>?_
 have E4_17:=D.q 17
 replace B3:=D.k B3
 replace B11:=D.k B11
 replace F9:=D.o L9 F9
 replace F10:=D.o L10 F10
 replace F_x5:=D.gr (RatN c.b.re) F_x5
 replace F_x6:=D.gr (RatN c.b.im) F_x6
 clear D
 refine wp_cond_false (by exact E4_17) ?_
 refine wp_skip ?_
 refine K12 _ _ ?_
 refine gd1 7 (Amb S W) 5 B3 fun _ K14=>?_
 refine .e rfl (fun H=>x_ldr (H.z 6 E3_8) (H.b1 B11 N3_11)) ?_
 refine .e rfl (fun H=>x_ldr (H.z 6 E3_8) (H.b1 B11 N3_11)) ?_
 refine .cR rfl [] Tryz.func144 (fun H=>⟨_,ar1 (H.g 41 1),rgNorm c (RingP.mk (H.was _ [] (VP.at F9 L9)) (H.was _ [] F_x5) (H.was _ [] F_x6) (H.was _ [] (VP.at F10 L10))) (by first | omega | exact (and_3 p0).1 | exact (and_3 p0).2.1 | exact (and_3 p0).2.2 | exact pos_flat p1) (by first | omega | exact (and_3 p0).1 | exact (and_3 p0).2.1 | exact (and_3 p0).2.2 | exact pos_flat p1)⟩) ?_
 refine .e rfl (fun H=>x_ldr (H.z 6 E3_8) (H.b1 B11 N3_11)) ?_
 refine .cK rfl Tryz.func241 (fun H=>⟨_,ar2 (H.r 42 2) (H.g 43 3),rgSame c.nrm c (SV.any (H.a 2 rfl)) (RingP.mk (VP.any _ (H.was _ [] (VP.at F9 L9))) (VP.any _ (H.was _ [] F_x5)) (VP.any _ (H.was _ [] F_x6)) (VP.any _ (H.was _ [] (VP.at F10 L10)))) (by first | omega | exact (and_3 p0).1 | exact (and_3 p0).2.1 | exact (and_3 p0).2.2 | exact pos_flat p1)⟩) ?_
 refine Go2.storeOld (i:=5) 0 b3 rfl rfl rfl ⟨_,_,_,B3,rfl⟩ (SP.old 0 b3 [] (fun u=>#[pt b9,x5,x6,pt b10]) 203 (by intro u u' h; simp []) (lt_of B3) (by intro y k hy; match y,hy with | 0,hy=>rfl)) (fun u μ ρ H=>?_) ?_
 · have e2:=H.z 2 E1_1; have e40:=H.g 40 0; have o_x5:=VP1.ratn F_x5; have o_x6:=VP1.ratn F_x6; have hb:=H.blkOld B3 0 5 rfl (.inl rfl)
   refine ⟨μ.setRow b3 #[pt b9,x5,x6,pt b10],ex_store_row 203 _ _ rfl e2 e40 hb (by kernel_rfl) rfl (by simp [o_x5,o_x6,ptr1] <;> rfl),fun g=>?_,setRow_only _ _ _⟩
   show (World.setRow _ _ _).heap[b3]? = _
   rw [setRow_at hb]; try simp [upd]
 refine .mv rfl 4 ?_
 refine .d1 (fun u=>ciV c::u1 0::u1 1::u 6::u2 6::u2 8::u3 8::u2 3::sq u2 0 3 (u2 4::u2 5::sq u3 0 8 (sq u4 0 18 (U::sq u 0 5 [])))) K14 bel A3 fun u5 w5 D bel=>?_
 have E5_6:=D.q 6
 replace B3:=D.ol 5
 replace F9:=D.o L9 F9
 replace F10:=D.o L10 F10
 replace F_x5:=D.gr (RatN c.b.re) F_x5
 replace F_x6:=D.gr (RatN c.b.im) F_x6
 clear D
 refine wp_ret ?_
 refine ret_ok rfl (by exact results_mix rfl (by exact E1_1) B3 Tryz.underlying203 rfl (by kernel_rfl) (by exact E5_6)) ⟨_,rfl,?_,bel⟩
 exact ⟨_,_,rfl,(RingP.mk (VP.at F9 L9) F_x5 F_x6 (VP.at F10 L10)),rfl⟩
theorem eSpotZ (z:Cx) (p0:gfits (rg z) = true) :
  Calls Tryz.prog 156 #[pnV (Pn.mk false z)] W (Ret (VP.tup (PlaceP ⟨false,z⟩) (VP.is (.bool true))) S W):=by
 have bel:=b0 W
 go_enter Tryz.func156,Tryz.ntmps156
 refine gs 3 (Amb S W) fun _ K1=>?_
 refine .bx rfl (fun H=>H.v 0 (pnV (Pn.mk false z))) ?_
 refine .al rfl (#[.bool false,.pointer none,.pointer none]) ?_
 refine .mc rfl ?_
 refine .dk (fun u=>pnV (Pn.mk false z)::sq u 0 3 (us 17)) K1 bel fun u1 w1 D bel=>?_
 obtain ⟨b2,E1_0,A2,B2⟩:=D.nw 0
 obtain ⟨b3,E1_1,A3,B3⟩:=D.nw 1
 have E1_2:=D.q 2
 have N2_3:=D.n2 0 1 E1_0 E1_1
 clear D
 refine wp_seq_k fun _ K4=>?_
 refine gs 2 (Amb S W) fun _ K5=>?_
 refine .fz rfl 1 0 E1_0 ?_
 refine .lc rfl 0 B2 ?_ (V:=.bool false)
 refine .dk (fun u=>pnV (Pn.mk false z)::sq u1 0 3 (U::U::u 0::u 1::us 13)) K5 bel fun u2 w2 D bel=>?_
 have E2_1:=D.q 1
 replace B2:=D.k B2
 replace B3:=D.k B3
 clear D
 refine wp_cond_false (by exact E2_1) ?_
 refine wp_skip ?_
 refine K4 _ _ ?_
 refine gs 9 (Amb S W) fun _ K6=>?_
 refine .fz rfl 1 1 E1_0 ?_
 refine .lp rfl 0 (gC z) B2 ?_
 refine .cR rfl [] Tryz.func197 (fun H=>⟨_,ar1 (H.g 14 1),eOf _ (by assumption)⟩) ?_
 refine .mn rfl 2 [2] ?_
 refine Go2.fn (i:=4) rfl (G0 rfl) (.val 4 [2,3] (NumP z)) (fun u μ ρ H=>by have e12:=H.r 12 3; have h0:=(H.a 3 rfl); obtain ⟨x0,x1,h1,h2⟩:=h0; rw [h1] at e12; exact ⟨x0,by clear H; go_simp,SP.tupKeep (by decide) (by decide) h2.1⟩) ?_
 refine .e rfl (V:=.bool true) (fun H=>by have e12:=H.r 12 3; have h0:=(H.a 3 rfl); obtain ⟨x0,x1,h1,h2,h3⟩:=h0; rw [h1] at e12; have h3:x1 = .bool true:=h3; subst h3; clear H; go_simp) ?_
 refine .al rfl (#[.pointer none,.pointer none]) ?_
 refine Go2.storeOwn (i:=7) (m:=6) rfl rfl (.head _) (SP.cells 6 [4] (fun u=>#[((u 4).v.cells.getD 0 undef),((u 4).v.cells.getD 1 undef)]) 178 (by intro u u' h; simp [h 4 (by simp)])) (fun u μ ρ b H h0 hB hb=>?_) ?_
 · have e4:=H.r 4 6; have e16:=H.r 16 4
   rw [h0] at e4
   obtain ⟨x1,x2,h1,h2,h3⟩:=(H.a 4 rfl)
   have o1:=VP1.ratn h2
   have o2:=VP1.ratn h3
   rw [h1] at e16
   refine ⟨μ.setRow b #[x1,x2],ex_store_row 178 _ _ rfl e4 e16 hb (by kernel_rfl) rfl (by simp [o1,o2]),fun g=>⟨b,?_,hB,?_⟩,setRow_only _ _ _⟩
   · rw [upd_other _ _ (by decide)]; exact h0
   · rw [setRow_at hb]; try simp [upd,h1,Value.cells]
 refine .mv rfl 5 ?_
 refine .dk (fun u=>pnV (Pn.mk false z)::sq u1 0 3 (u 6::u 8::u2 0::u2 1::U::U::U::U::u 3::sq u 0 3 (u 4::u 5::us 3))) K6 bel fun u3 w3 D bel=>?_
 obtain ⟨x7,x8,E3_4,F_x7,F_x8⟩:=(D.rr 4)
 obtain ⟨b9,E3_6,A9,B9⟩:=(D.a 7 rfl)
 replace A9:=le2 D.le A9
 have E3_8:=D.q 8
 have N3_9:=D.n1 6 (lt_of B3) E3_6
 replace B3:=D.k B3
 simp only [Value.cells,E3_4,E3_6] at B9
 replace B9:w3.heap[b9]? = some (.cells #[x7,x8] 178 (0,0)):=B9
 clear D
 refine gs1 5 (Amb S W) 3 B3 fun _ K10=>?_
 refine .e rfl (fun H=>x_ldr (H.z 4 E3_6) (H.b1 B9 N3_9)) ?_
 refine .e rfl (V:=.agg #[.bool false,x7,x8]) (fun H=>by have e18:=H.g 18 0; clear H; go_simp) ?_
 refine .mz rfl 5 E3_8 ?_
 refine Go2.storeOld (i:=3) 0 b3 rfl rfl rfl ⟨_,_,_,B3,rfl⟩ (SP.old 0 b3 [] (fun u=>#[.bool false,x7,x8]) 229 (by intro u u' h; simp []) (lt_of B3) (by intro y k hy; match y,hy with | 0,hy=>rfl)) (fun u μ ρ H=>?_) ?_
 · have e2:=H.z 2 E1_1; have e19:=H.g 19 1; have o_x7:=VP1.ratn F_x7; have o_x8:=VP1.ratn F_x8; have hb:=H.blkOld B3 0 3 rfl (.inl rfl)
   refine ⟨μ.setRow b3 #[.bool false,x7,x8],ex_store_row 229 _ _ rfl e2 e19 hb (by kernel_rfl) rfl (by simp [o_x7,o_x8] <;> rfl),fun g=>?_,setRow_only _ _ _⟩
   show (World.setRow _ _ _).heap[b3]? = _
   rw [setRow_at hb]; try simp [upd]
 refine .mv rfl 2 ?_
 refine .d1 (fun u=>pnV (Pn.mk false z)::u1 0::u1 1::u 4::u3 6::u3 8::u2 0::u2 1::U::U::U::U::u3 3::sq u3 0 3 (u3 4::u3 5::sq u 0 3 [])) K10 bel A3 fun u4 w4 D bel=>?_
 have E4_4:=D.q 4
 replace B3:=D.ol 3
 replace F_x7:=D.gr (RatN z.re) F_x7
 replace F_x8:=D.gr (RatN z.im) F_x8
 clear D
 refine wp_ret ?_
 refine ret_ok rfl (by exact results_mix rfl (by exact E1_1) B3 Tryz.underlying229 rfl (by kernel_rfl) (by exact E4_4)) ⟨_,rfl,?_,bel⟩
 exact ⟨_,_,rfl,(PlaceP.mk F_x7 F_x8),rfl⟩
end Go.Proofs.YtcpjdjnaipbieaaGreat
namespace Go.Proofs.YtcpjdjnaipbieaaGreat
open Go.RowKit Rgn
theorem eWheelO {S:Nat → Prop} {W:World} (c:Ci) (p0:ciOk (rci c) = true):Calls Tryz.prog 155 #[ciV c] W (Ret (VP.tup (RingP c) (VP.is (.bool true))) S W):=by
 obtain ⟨h1,h2,h3⟩:=ciOk_c p0
 have h:=eWheelY (S:=S) (W:=W) c h1 h2
 rw [decide_eq_true h3] at h
 exact h
end Go.Proofs.YtcpjdjnaipbieaaGreat
namespace Go.Proofs.YtcpjdjnaipbieaaGreat
open Go.RowKit Rgn Eng
set_option maxHeartbeats 4000000
set_option maxRecDepth 100000
variable {S:Nat → Prop} {W:World}
theorem eOpenR (r:RMb) :
  Calls Tryz.prog 131 #[rmbV r] W (RetAnd (RetIf (((((gmay r.a) && (gmay r.b)) && (gmay r.c)) && (gmay r.d)) = false) (RetV (.tuple #[.agg #[.pointer none,.pointer none,.pointer none,.pointer none,.pointer none,.pointer none,.pointer none,.pointer none,.bool false],.bool false]) W)) (RetAnd (RetIf (((((gmay r.a) && (gmay r.b)) && (gmay r.c)) && (gmay r.d)) = true ∧ (((Mb.mk (gvm r.a) (gvm r.b) (gvm r.c) (gvm r.d) r.t).det).zero) = true) (RetV (.tuple #[.agg #[.pointer none,.pointer none,.pointer none,.pointer none,.pointer none,.pointer none,.pointer none,.pointer none,.bool false],.bool false]) W)) (RetIf (((((gmay r.a) && (gmay r.b)) && (gmay r.c)) && (gmay r.d)) = true ∧ (((Mb.mk (gvm r.a) (gvm r.b) (gvm r.c) (gvm r.d) r.t).det).zero) = false) (Ret (VP.tup (MatP (mvm r)) (VP.is (.bool (mvm r).form))) S W)))):=by
 have f:=mvm_ht r
 have o1:ht (Cx.ofInt (1:Int) (0:Int)).re = 2:=by decide
 have o2:ht (Cx.ofInt (1:Int) (0:Int)).im = 2:=by decide
 refine Run.goP (S:=S) (Pack.nil.k (rmbV r) (rmbC r).toList (.s (.agg (ks 0 33)))) Tryz.func131 rfl ?_
 refine Run.cR spNumK (fun β ℓ w H=>eOfR r.a) ?_
 refine Run.cR spNumK (fun β ℓ w H=>eOfR r.b) ?_
 refine Run.an (gmay r.a) (gmay r.b) ?_
 refine Run.cR spNumK (fun β ℓ w H=>eOfR r.c) ?_
 refine Run.an (gmay r.a && gmay r.b) (gmay r.c) ?_
 refine Run.cR spNumK (fun β ℓ w H=>eOfR r.d) ?_
 refine Run.an (gmay r.a && gmay r.b && gmay r.c) (gmay r.d) ?_
 rcases Bool.eq_false_or_eq_true (gmay r.a && gmay r.b && gmay r.c && gmay r.d) with h1 | h1
 · refine Run.kn h1 ?_
   refine Run.cR spNum (fun β ℓ w H=>mtDet (Mb.mk (gvm r.a) (gvm r.b) (gvm r.c) (gvm r.d) r.t) (MatP.mk (H.f 0) (H.f 1) (H.f 2) (H.f 3) (H.f 4) (H.f 5) (H.f 6) (H.f 7)) (by dsimp only at *; omega)) ?_
   refine Run.cV [.bool (Mb.mk (gvm r.a) (gvm r.b) (gvm r.c) (gvm r.d) r.t).det.zero] kb (fun β ℓ w H=>eZero (Mb.mk (gvm r.a) (gvm r.b) (gvm r.c) (gvm r.d) r.t).det (NumP.mk (H.f 8) (H.f 9))) ?_
   rcases Bool.eq_false_or_eq_true (Mb.mk (gvm r.a) (gvm r.b) (gvm r.c) (gvm r.d) r.t).det.zero with h2 | h2
   · refine Run.kn h2 ?_
     exact Run.fin (fun β ℓ w I=>⟨fun c=>absurd c (by simp [h1]),fun _=>RetV.mk rfl I.bel,fun c=>absurd c.2 (by simp [h2])⟩)
   · refine Run.kn h2 ?_
     refine Run.cR spNum (fun β ℓ w H=>eInt 1 0 (by decide) (by decide) (by decide) (by decide)) ?_
     have fin:∀ {b:Bool} {β:Nat → Nat} {ℓ:Nat → Value} {w:World},b = (mvm r).form → (RatN (mvm r).a.re).p (Amb S W) (ℓ 0) w → (RatN (mvm r).a.im).p (Amb S W) (ℓ 1) w → (RatN (mvm r).b.re).p (Amb S W) (ℓ 2) w → (RatN (mvm r).b.im).p (Amb S W) (ℓ 3) w → (RatN (mvm r).c.re).p (Amb S W) (ℓ 4) w → (RatN (mvm r).c.im).p (Amb S W) (ℓ 5) w → (RatN (mvm r).d.re).p (Amb S W) (ℓ 6) w → (RatN (mvm r).d.im).p (Amb S W) (ℓ 7) w → Below W.heap.size W w →
         RetAnd (RetIf ((gmay r.a && gmay r.b && gmay r.c && gmay r.d) = false) (RetV (.tuple #[.agg #[.pointer none,.pointer none,.pointer none,.pointer none,.pointer none,.pointer none,.pointer none,.pointer none,.bool false],.bool false]) W)) (RetAnd (RetIf ((gmay r.a && gmay r.b && gmay r.c && gmay r.d) = true ∧ (Mb.mk (gvm r.a) (gvm r.b) (gvm r.c) (gvm r.d) r.t).det.zero = true) (RetV (.tuple #[.agg #[.pointer none,.pointer none,.pointer none,.pointer none,.pointer none,.pointer none,.pointer none,.pointer none,.bool false],.bool false]) W)) (RetIf ((gmay r.a && gmay r.b && gmay r.c && gmay r.d) = true ∧ (Mb.mk (gvm r.a) (gvm r.b) (gvm r.c) (gvm r.d) r.t).det.zero = false) (Ret (VP.tup (MatP (mvm r)) (VP.is (.bool (mvm r).form))) S W))) (.returned (.tuple #[.agg #[ℓ 0,ℓ 1,ℓ 2,ℓ 3,ℓ 4,ℓ 5,ℓ 6,ℓ 7,.bool r.t],.bool b])) w :=
       fun e g0 g1 g2 g3 g4 g5 g6 g7 bel=>⟨fun c=>absurd c (by simp [h1]),fun c=>absurd c.2 (by simp [h2]),fun _=>⟨_,rfl,⟨_,_,rfl,MatP.mk g0 g1 g2 g3 g4 g5 g6 g7,congrArg Value.bool e⟩,bel⟩⟩
     rcases Bool.eq_false_or_eq_true (((gvm r.c).sub (Cx.ofInt (1:Int) (0:Int))).zero) with c1 | c1
     · refine Run.dr ?_
       refine RunD.cV [] (cb true) (fun β ℓ w H=>eSame (gvm r.c) (Cx.ofInt 1 0) (NumP.mk (H.f 4) (H.f 5)) (NumP.mk (H.f 10) (H.f 11)) (by dsimp only at *; omega)) ?_ (hV:=fun _ _=>congrArg Value.bool c1)
       refine RunD.en ?_
       exact Run.fin (fun β ℓ w H=>fin (β:=β) (form_1 (m:=mvm r) c1).symm (H.f 0) (H.f 1) (H.f 2) (H.f 3) (H.f 4) (H.f 5) (H.f 6) (H.f 7) H.bel)
     · rcases Bool.eq_false_or_eq_true ((gvm r.c).zero) with c2 | c2
       · refine Run.dr ?_
         refine RunD.cV [] (cb false) (fun β ℓ w H=>eSame (gvm r.c) (Cx.ofInt 1 0) (NumP.mk (H.f 4) (H.f 5)) (NumP.mk (H.f 10) (H.f 11)) (by dsimp only at *; omega)) ?_ (hV:=fun _ _=>congrArg Value.bool c1)
         refine RunD.cV [] (cb true) (fun β ℓ w H=>eZero (gvm r.c) (NumP.mk (H.f 4) (H.f 5))) ?_ (hV:=fun _ _=>congrArg Value.bool c2)
         refine RunD.cV [.bool ((mvm r).d.sub (Cx.ofInt 1 0)).zero] kb (fun β ℓ w H=>eSame (gvm r.d) (Cx.ofInt 1 0) (NumP.mk (H.f 6) (H.f 7)) (NumP.mk (H.f 10) (H.f 11)) (by dsimp only at *; omega)) ?_
         refine RunD.en ?_
         exact Run.fin (fun β ℓ w H=>fin (β:=β) (form_3 (m:=mvm r) c1 c2).symm (H.f 0) (H.f 1) (H.f 2) (H.f 3) (H.f 4) (H.f 5) (H.f 6) (H.f 7) H.bel)
       · refine Run.dr ?_
         refine RunD.cV [] (cb false) (fun β ℓ w H=>eSame (gvm r.c) (Cx.ofInt 1 0) (NumP.mk (H.f 4) (H.f 5)) (NumP.mk (H.f 10) (H.f 11)) (by dsimp only at *; omega)) ?_ (hV:=fun _ _=>congrArg Value.bool c1)
         refine RunD.cV [] (cb false) (fun β ℓ w H=>eZero (gvm r.c) (NumP.mk (H.f 4) (H.f 5))) ?_ (hV:=fun _ _=>congrArg Value.bool c2)
         refine RunD.en ?_
         exact Run.fin (fun β ℓ w H=>fin (β:=β) (form_2 (m:=mvm r) c1 c2).symm (H.f 0) (H.f 1) (H.f 2) (H.f 3) (H.f 4) (H.f 5) (H.f 6) (H.f 7) H.bel)
 · refine Run.kn h1 ?_
   exact Run.fin (fun β ℓ w I=>⟨fun _=>RetV.mk rfl I.bel,fun c=>absurd c.1 (by simp [h1]),fun c=>absurd c.1 (by simp [h1])⟩)
end Go.Proofs.YtcpjdjnaipbieaaGreat
namespace Go.Proofs.YtcpjdjnaipbieaaGreat
open Go.RowKit Rgn
theorem matJ0 {S:Nat → Prop} {w:World}:(MatJ 0).p S (.agg #[.pointer none,.pointer none,.pointer none,.pointer none,.pointer none,.pointer none,.pointer none,.pointer none,.bool false]) w :=
 ⟨_,_,_,_,_,_,_,_,_,rfl,⟨_,rfl⟩,⟨_,rfl⟩,⟨_,rfl⟩,⟨_,rfl⟩,⟨_,rfl⟩,⟨_,rfl⟩,⟨_,rfl⟩,⟨_,rfl⟩,rfl⟩
theorem eOpenO {S:Nat → Prop} {W:World} (m:Mb) (p0:mbOk (rmb m) = true):Calls Tryz.prog 131 #[mbV m] W (Ret (VP.tup (MatP m) (VP.is (.bool true))) S W):=by
 obtain ⟨h1,h2,h3⟩:=mbOk_c p0
 obtain ⟨k1,k2,k3,k4⟩:=and_4 h1
 have hg:(gmay (rg m.a) && gmay (rg m.b) && gmay (rg m.c) && gmay (rg m.d)) = true:=by rw [gmay_rg,gmay_rg,gmay_rg,gmay_rg]; exact h1
 have e:mvm (rmb m) = m:=mvm_rmb hg
 have h:=eOpenR (S:=S) (W:=W) (rmb m)
 refine h.mono fun _ _ h=>?_
 have h5:=h.2.2 ⟨hg,by show (mvm (rmb m)).det.zero = false; rw [e]; exact h2⟩
 rw [e,h3] at h5
 exact h5
theorem eOpenN {S:Nat → Prop} {W:World} (r:RMb) (p0:mbOk r = false):Calls Tryz.prog 131 #[rmbV r] W (Ret (VP.tup (MatJ 0) (VP.is (.bool false))) S W):=by
 have h:=eOpenR (S:=S) (W:=W) r
 have toV:∀ {e w'},RetV (.tuple #[.agg #[.pointer none,.pointer none,.pointer none,.pointer none,.pointer none,.pointer none,.pointer none,.pointer none,.bool false],.bool false]) W e w' → Ret (VP.tup (MatJ 0) (VP.is (.bool false))) S W e w' := fun h=>by
  obtain ⟨h1,h2⟩:=h.is
  exact ⟨_,h1,⟨_,_,rfl,matJ0,rfl⟩,h2⟩
 refine h.mono fun e w' h=>?_
 cases hg:(gmay r.a && gmay r.b && gmay r.c && gmay r.d) with
 | false=>exact toV (h.1 hg)
 | true =>
  obtain ⟨m,rfl,hf⟩:=mb_of hg
  have em:mvm (rmb m) = m:=mvm_rmb hg
  cases hz:(mvm (rmb m)).det.zero with
  | true=>exact toV (h.2.1 ⟨hg,hz⟩)
  | false =>
   have h5:=h.2.2 ⟨hg,hz⟩
   obtain ⟨v,h6,⟨a,b,h7,h8,h9⟩,h10⟩:=h5
   have hb:b = .bool false:=by
    rw [h9]
    cases hm:(mvm (rmb m)).form with
    | false=>rfl
    | true=>exact absurd ⟨m,rfl,hf,em ▸ hz,em ▸ hm⟩ (mbOk_no p0)
   exact ⟨v,h6,⟨a,b,h7,MatP.j h8,hb⟩,h10⟩
end Go.Proofs.YtcpjdjnaipbieaaGreat
namespace Go.Proofs.YtcpjdjnaipbieaaGreat
open Go.RowKit Rgn
set_option maxHeartbeats 4000000
set_option maxRecDepth 100000
variable {S:Nat → Prop} {W:World}
theorem l14isC (r:RCi) (e:Int) (q:RCi) :
  Calls Tryz.prog 29 #[rciV r,.int .i64 e,rciV q] W (RetV (.bool (isCb r e q)) W):=by
 have bel:=b0 W
 go_enter Tryz.func29,Tryz.ntmps29
 refine gs 3 (Amb Z0 W) fun _ K1=>?_
 refine .bx rfl (fun H=>H.v 0 (rciV r)) ?_
 refine .bx rfl (fun H=>H.v 2 (rciV q)) ?_
 refine .mc rfl ?_
 refine .dk (fun u=>rciV r::.int .i64 e::rciV q::u 0::U::u 1::u 2::us 19) K1 bel fun u1 w1 D bel=>?_
 obtain ⟨b2,E1_0,A2,B2⟩:=D.nw 0
 obtain ⟨b3,E1_1,A3,B3⟩:=D.nw 1
 have E1_2:=D.q 2
 clear D
 refine wp_seq_k fun _ K4=>?_
 refine gs 3 (Amb Z0 W) fun _ K5=>?_
 refine .lr rfl 5 E1_1 B3 ?_
 refine .cK rfl Tryz.func88 (fun H=>⟨_,ar1 (H.g 7 0),c11Fits _⟩) ?_
 refine .e rfl (V:=.bool (!(cifits q))) (fun H=>x_not (H.g 8 1)) ?_
 refine .dk (fun u=>rciV r::.int .i64 e::rciV q::u1 0::U::u1 1::u1 2::sq u 0 3 (us 16)) K5 bel fun u2 w2 D bel=>?_
 have E2_2:=D.q 2
 replace B2:=D.k B2
 replace B3:=D.k B3
 clear D
 rcases Bool.eq_false_or_eq_true (!(cifits q)) with c6 | c6
 ·
  refine wp_cond_true ((E2_2).trans (congrArg Value.bool c6)) ?_
  rcases Bool.eq_false_or_eq_true (decide (r = rzCi)) with c8 | c8
  ·
   have dc8:=of_decide_eq_true c8
   refine gs 9 (Amb Z0 W) fun _ K7=>?_
   refine .lr rfl 3 E1_0 B2 ?_
   refine .e rfl (V:=.agg zCi) (fun H=>by clear H; go_simp) ?_
   refine .e rfl (V:=.bool (decide (r = rzCi))) (fun H=>ex_eql_ci (r:=r) (q:=rzCi) _ _ rfl (H.g 10 0) (H.g 11 1) rfl) ?_
   refine .e rfl (V:=.bool true) (fun H=>by have e12:=H.g 12 2; have k_:=c8; clear H; go_simp <;> first | (simp_all; done) | omega | exact len_gt z0_) ?_
   refine .mz rfl 1 (V:=.int .i64 e) rfl ?_ (hg:=gq 3 rfl)
   refine .cK rfl Tryz.func27 (fun H=>⟨_,ar1 (H.g 14 4),l14Num _⟩) ?_ (hg:=gq 3 rfl)
   refine .e rfl (V:=.bool (e == 4)) (fun H=>x_cmp (H.g 15 5) (H.c _)) ?_ (hg:=gq 3 rfl)
   refine .e rfl (fun H=>x_pkT (H.g 13 3) (H.g 16 6)) ?_
   refine .mv rfl 7 ?_
   refine .dk (fun u=>rciV r::.int .i64 e::rciV q::u1 0::U::u1 1::u 8::sq u2 0 3 (sq u 0 8 (us 8))) K7 bel fun u3 w3 D bel=>?_
   have E3_8:=D.q 8
   clear D
   exact wp_ret (rt rfl E3_8 (isC_1 c6 c8) bel)
  ·
   have dc8:=of_decide_eq_false c8
   refine gs 9 (Amb Z0 W) fun _ K7=>?_
   refine .lr rfl 3 E1_0 B2 ?_
   refine .e rfl (V:=.agg zCi) (fun H=>by clear H; go_simp) ?_
   refine .e rfl (V:=.bool (decide (r = rzCi))) (fun H=>ex_eql_ci (r:=r) (q:=rzCi) _ _ rfl (H.g 10 0) (H.g 11 1) rfl) ?_
   refine .e rfl (V:=.bool false) (fun H=>by have e12:=H.g 12 2; have k_:=c8; clear H; go_simp <;> first | (simp_all; done) | omega | exact len_gt z0_) ?_
   refine .sk rfl 3 ?_
   refine .sk rfl 3 ?_
   refine .sk rfl 3 ?_
   refine .e rfl (fun H=>x_pkF (H.g 13 3) (H.c _)) ?_
   refine .mv rfl 7 ?_
   refine .dk (fun u=>rciV r::.int .i64 e::rciV q::u1 0::U::u1 1::u 8::sq u2 0 3 (sq u 0 8 (us 8))) K7 bel fun u3 w3 D bel=>?_
   have E3_8:=D.q 8
   clear D
   exact wp_ret (rt rfl E3_8 (isC_2 c6 c8) bel)
 ·
  refine wp_cond_false ((E2_2).trans (congrArg Value.bool c6)) ?_
  refine wp_skip ?_
  refine K4 _ _ ?_
  rcases Bool.eq_false_or_eq_true (decide (r = q)) with c10 | c10
  ·
   have dc10:=of_decide_eq_true c10
   refine gs 9 (Amb Z0 W) fun _ K9=>?_
   refine .lr rfl 3 E1_0 B2 ?_
   refine .lr rfl 5 E1_1 B3 ?_
   refine .e rfl (V:=.bool (decide (r = q))) (fun H=>ex_eql_ci (r:=r) (q:=q) _ _ rfl (H.g 18 0) (H.g 19 1) rfl) ?_
   refine .e rfl (V:=.bool true) (fun H=>by have e20:=H.g 20 2; have k_:=c10; clear H; go_simp <;> first | (simp_all; done) | omega | exact len_gt z0_) ?_
   refine .mz rfl 1 (V:=.int .i64 e) rfl ?_ (hg:=gq 3 rfl)
   refine .cK rfl Tryz.func27 (fun H=>⟨_,ar1 (H.g 22 4),l14Num _⟩) ?_ (hg:=gq 3 rfl)
   refine .e rfl (V:=.bool (e == 0)) (fun H=>x_cmp (H.g 23 5) (H.c _)) ?_ (hg:=gq 3 rfl)
   refine .e rfl (fun H=>x_pkT (H.g 21 3) (H.g 24 6)) ?_
   refine .mv rfl 7 ?_
   refine .dk (fun u=>rciV r::.int .i64 e::rciV q::u1 0::U::u1 1::u 8::sq u2 0 3 (U::U::U::U::U::U::U::U::sq u 0 8 [])) K9 bel fun u4 w4 D bel=>?_
   have E4_8:=D.q 8
   clear D
   exact wp_ret (rt rfl E4_8 (isC_3 c6 c10) bel)
  ·
   have dc10:=of_decide_eq_false c10
   refine gs 9 (Amb Z0 W) fun _ K9=>?_
   refine .lr rfl 3 E1_0 B2 ?_
   refine .lr rfl 5 E1_1 B3 ?_
   refine .e rfl (V:=.bool (decide (r = q))) (fun H=>ex_eql_ci (r:=r) (q:=q) _ _ rfl (H.g 18 0) (H.g 19 1) rfl) ?_
   refine .e rfl (V:=.bool false) (fun H=>by have e20:=H.g 20 2; have k_:=c10; clear H; go_simp <;> first | (simp_all; done) | omega | exact len_gt z0_) ?_
   refine .sk rfl 3 ?_
   refine .sk rfl 3 ?_
   refine .sk rfl 3 ?_
   refine .e rfl (fun H=>x_pkF (H.g 21 3) (H.c _)) ?_
   refine .mv rfl 7 ?_
   refine .dk (fun u=>rciV r::.int .i64 e::rciV q::u1 0::U::u1 1::u 8::sq u2 0 3 (U::U::U::U::U::U::U::U::sq u 0 8 [])) K9 bel fun u4 w4 D bel=>?_
   have E4_8:=D.q 8
   clear D
   exact wp_ret (rt rfl E4_8 (isC_4 c6 c10) bel)
theorem l14longF (r:RF) :
  Calls Tryz.prog 129 #[rfV r] W (RetV (.bool (lgF r)) W):=by
 have bel:=b0 W
 go_enter Tryz.func129,Tryz.ntmps129
 refine gs 2 (Amb Z0 W) fun _ K1=>?_
 refine .bx rfl (fun H=>H.v 0 (rfV r)) ?_
 refine .mc rfl ?_
 refine .dk (fun u=>rfV r::u 0::u 1::us 26) K1 bel fun u1 w1 D bel=>?_
 obtain ⟨b2,E1_0,A2,B2⟩:=D.nw 0
 have E1_1:=D.q 1
 clear D
 rcases Bool.eq_false_or_eq_true (decide (80 < ((r.a.s.size:Nat):Int))) with c4 | c4
 ·
  have dc4:=of_decide_eq_true c4
  rcases Bool.eq_false_or_eq_true (decide (((r.a.s.size:Nat):Int) ≤ 1024)) with c5 | c5
  ·
   have dc5:=of_decide_eq_true c5
   refine gs 27 (Amb Z0 W) fun _ K3=>?_
   refine .fz rfl 1 0 E1_0 ?_
   refine .fj rfl 0 1 ?_
   refine .lc rfl 1 B2 ?_ (V:=.string r.a.s)
   refine .e rfl (V:=.int .i64 ((r.a.s.size:Nat):Int)) (fun H=>by have e5:=H.g 5 2; clear H; go_simp) ?_
   refine .e rfl (V:=.bool true) (fun H=>x_cm (H.g 6 3) (H.c _) c4) ?_
   refine .mv rfl 4 ?_
   refine .fz rfl 1 0 E1_0 ?_ (hg:=gq 5 rfl)
   refine .fj rfl 6 1 ?_ (hg:=gq 5 rfl)
   refine .lc rfl 7 B2 ?_ (V:=.string r.a.s) (hg:=gq 5 rfl)
   refine .e rfl (V:=.int .i64 ((r.a.s.size:Nat):Int)) (fun H=>by have e11:=H.g 11 8; clear H; go_simp) ?_ (hg:=gq 5 rfl)
   refine .e rfl (V:=.bool true) (fun H=>x_cm (H.g 12 9) (H.c _) c5) ?_ (hg:=gq 5 rfl)
   refine .e rfl (fun H=>x_pkT (H.g 8 5) (H.g 13 10)) ?_
   refine .mv rfl 11 ?_
   refine .sk rfl 12 ?_
   refine .sk rfl 12 ?_
   refine .sk rfl 12 ?_
   refine .sk rfl 12 ?_
   refine .sk rfl 12 ?_
   refine .su rfl 12 ?_
   refine .sn rfl 18 ?_
   refine .sn rfl 18 ?_
   refine .sn rfl 18 ?_
   refine .sn rfl 18 ?_
   refine .sn rfl 18 ?_
   refine .sk rfl 12 ?_
   refine .e rfl (fun H=>x_pkT (H.g 15 12) (H.c _)) ?_
   refine .mv rfl 25 ?_
   refine .dk (fun u=>rfV r::u1 0::u 26::sq u 0 26 []) K3 bel fun u2 w2 D bel=>?_
   have E2_26:=D.q 26
   clear D
   exact wp_ret (rt rfl E2_26 (lg_1 c4 c5) bel)
  ·
   have dc5:=of_decide_eq_false c5
   rcases Bool.eq_false_or_eq_true (decide (80 < ((r.b.s.size:Nat):Int))) with c6 | c6
   ·
    have dc6:=of_decide_eq_true c6
    refine gs 27 (Amb Z0 W) fun _ K3=>?_
    refine .fz rfl 1 0 E1_0 ?_
    refine .fj rfl 0 1 ?_
    refine .lc rfl 1 B2 ?_ (V:=.string r.a.s)
    refine .e rfl (V:=.int .i64 ((r.a.s.size:Nat):Int)) (fun H=>by have e5:=H.g 5 2; clear H; go_simp) ?_
    refine .e rfl (V:=.bool true) (fun H=>x_cm (H.g 6 3) (H.c _) c4) ?_
    refine .mv rfl 4 ?_
    refine .fz rfl 1 0 E1_0 ?_ (hg:=gq 5 rfl)
    refine .fj rfl 6 1 ?_ (hg:=gq 5 rfl)
    refine .lc rfl 7 B2 ?_ (V:=.string r.a.s) (hg:=gq 5 rfl)
    refine .e rfl (V:=.int .i64 ((r.a.s.size:Nat):Int)) (fun H=>by have e11:=H.g 11 8; clear H; go_simp) ?_ (hg:=gq 5 rfl)
    refine .e rfl (V:=.bool false) (fun H=>x_cm (H.g 12 9) (H.c _) c5) ?_ (hg:=gq 5 rfl)
    refine .e rfl (fun H=>x_pkT (H.g 8 5) (H.g 13 10)) ?_
    refine .mv rfl 11 ?_
    refine .fz rfl 1 2 E1_0 ?_ (hg:=gq 12 rfl)
    refine .fj rfl 13 3 ?_ (hg:=gq 12 rfl)
    refine .lc rfl 14 B2 ?_ (V:=.string r.b.s) (hg:=gq 12 rfl)
    refine .e rfl (V:=.int .i64 ((r.b.s.size:Nat):Int)) (fun H=>by have e18:=H.g 18 15; clear H; go_simp) ?_ (hg:=gq 12 rfl)
    refine .e rfl (V:=.bool true) (fun H=>x_cm (H.g 19 16) (H.c _) c6) ?_ (hg:=gq 12 rfl)
    refine .mv rfl 17 ?_ (hg:=gq 12 rfl)
    refine .fz rfl 1 2 E1_0 ?_ (hg:=gq 18 rfl)
    refine .fj rfl 19 3 ?_ (hg:=gq 18 rfl)
    refine .lc rfl 20 B2 ?_ (V:=.string r.b.s) (hg:=gq 18 rfl)
    refine .e rfl (V:=.int .i64 ((r.b.s.size:Nat):Int)) (fun H=>by have e24:=H.g 24 21; clear H; go_simp) ?_ (hg:=gq 18 rfl)
    refine .e rfl (V:=.bool (decide (((r.b.s.size:Nat):Int) ≤ 1024))) (fun H=>x_cmp (H.g 25 22) (H.c _)) ?_ (hg:=gq 18 rfl)
    refine .e rfl (fun H=>x_pkT (H.g 21 18) (H.g 26 23)) ?_ (hg:=gq 12 rfl)
    refine .e rfl (fun H=>x_pkF (H.g 15 12) (H.g 27 24)) ?_
    refine .mv rfl 25 ?_
    refine .dk (fun u=>rfV r::u1 0::u 26::sq u 0 26 []) K3 bel fun u2 w2 D bel=>?_
    have E2_26:=D.q 26
    clear D
    exact wp_ret (rt rfl E2_26 (lg_2 c4 c5 c6) bel)
   ·
    have dc6:=of_decide_eq_false c6
    refine gs 27 (Amb Z0 W) fun _ K3=>?_
    refine .fz rfl 1 0 E1_0 ?_
    refine .fj rfl 0 1 ?_
    refine .lc rfl 1 B2 ?_ (V:=.string r.a.s)
    refine .e rfl (V:=.int .i64 ((r.a.s.size:Nat):Int)) (fun H=>by have e5:=H.g 5 2; clear H; go_simp) ?_
    refine .e rfl (V:=.bool true) (fun H=>x_cm (H.g 6 3) (H.c _) c4) ?_
    refine .mv rfl 4 ?_
    refine .fz rfl 1 0 E1_0 ?_ (hg:=gq 5 rfl)
    refine .fj rfl 6 1 ?_ (hg:=gq 5 rfl)
    refine .lc rfl 7 B2 ?_ (V:=.string r.a.s) (hg:=gq 5 rfl)
    refine .e rfl (V:=.int .i64 ((r.a.s.size:Nat):Int)) (fun H=>by have e11:=H.g 11 8; clear H; go_simp) ?_ (hg:=gq 5 rfl)
    refine .e rfl (V:=.bool false) (fun H=>x_cm (H.g 12 9) (H.c _) c5) ?_ (hg:=gq 5 rfl)
    refine .e rfl (fun H=>x_pkT (H.g 8 5) (H.g 13 10)) ?_
    refine .mv rfl 11 ?_
    refine .fz rfl 1 2 E1_0 ?_ (hg:=gq 12 rfl)
    refine .fj rfl 13 3 ?_ (hg:=gq 12 rfl)
    refine .lc rfl 14 B2 ?_ (V:=.string r.b.s) (hg:=gq 12 rfl)
    refine .e rfl (V:=.int .i64 ((r.b.s.size:Nat):Int)) (fun H=>by have e18:=H.g 18 15; clear H; go_simp) ?_ (hg:=gq 12 rfl)
    refine .e rfl (V:=.bool false) (fun H=>x_cm (H.g 19 16) (H.c _) c6) ?_ (hg:=gq 12 rfl)
    refine .mv rfl 17 ?_ (hg:=gq 12 rfl)
    refine .sk rfl 18 ?_
    refine .sk rfl 18 ?_
    refine .sk rfl 18 ?_
    refine .sk rfl 18 ?_
    refine .sk rfl 18 ?_
    refine .e rfl (fun H=>x_pkF (H.g 21 18) (H.c _)) ?_ (hg:=gq 12 rfl)
    refine .e rfl (fun H=>x_pkF (H.g 15 12) (H.g 27 24)) ?_
    refine .mv rfl 25 ?_
    refine .dk (fun u=>rfV r::u1 0::u 26::sq u 0 26 []) K3 bel fun u2 w2 D bel=>?_
    have E2_26:=D.q 26
    clear D
    exact wp_ret (rt rfl E2_26 (lg_3 c4 c5 c6) bel)
 ·
  have dc4:=of_decide_eq_false c4
  rcases Bool.eq_false_or_eq_true (decide (80 < ((r.b.s.size:Nat):Int))) with c7 | c7
  ·
   have dc7:=of_decide_eq_true c7
   refine gs 27 (Amb Z0 W) fun _ K3=>?_
   refine .fz rfl 1 0 E1_0 ?_
   refine .fj rfl 0 1 ?_
   refine .lc rfl 1 B2 ?_ (V:=.string r.a.s)
   refine .e rfl (V:=.int .i64 ((r.a.s.size:Nat):Int)) (fun H=>by have e5:=H.g 5 2; clear H; go_simp) ?_
   refine .e rfl (V:=.bool false) (fun H=>x_cm (H.g 6 3) (H.c _) c4) ?_
   refine .mv rfl 4 ?_
   refine .sk rfl 5 ?_
   refine .sk rfl 5 ?_
   refine .sk rfl 5 ?_
   refine .sk rfl 5 ?_
   refine .sk rfl 5 ?_
   refine .e rfl (fun H=>x_pkF (H.g 8 5) (H.c _)) ?_
   refine .mv rfl 11 ?_
   refine .fz rfl 1 2 E1_0 ?_ (hg:=gq 12 rfl)
   refine .fj rfl 13 3 ?_ (hg:=gq 12 rfl)
   refine .lc rfl 14 B2 ?_ (V:=.string r.b.s) (hg:=gq 12 rfl)
   refine .e rfl (V:=.int .i64 ((r.b.s.size:Nat):Int)) (fun H=>by have e18:=H.g 18 15; clear H; go_simp) ?_ (hg:=gq 12 rfl)
   refine .e rfl (V:=.bool true) (fun H=>x_cm (H.g 19 16) (H.c _) c7) ?_ (hg:=gq 12 rfl)
   refine .mv rfl 17 ?_ (hg:=gq 12 rfl)
   refine .fz rfl 1 2 E1_0 ?_ (hg:=gq 18 rfl)
   refine .fj rfl 19 3 ?_ (hg:=gq 18 rfl)
   refine .lc rfl 20 B2 ?_ (V:=.string r.b.s) (hg:=gq 18 rfl)
   refine .e rfl (V:=.int .i64 ((r.b.s.size:Nat):Int)) (fun H=>by have e24:=H.g 24 21; clear H; go_simp) ?_ (hg:=gq 18 rfl)
   refine .e rfl (V:=.bool (decide (((r.b.s.size:Nat):Int) ≤ 1024))) (fun H=>x_cmp (H.g 25 22) (H.c _)) ?_ (hg:=gq 18 rfl)
   refine .e rfl (fun H=>x_pkT (H.g 21 18) (H.g 26 23)) ?_ (hg:=gq 12 rfl)
   refine .e rfl (fun H=>x_pkF (H.g 15 12) (H.g 27 24)) ?_
   refine .mv rfl 25 ?_
   refine .dk (fun u=>rfV r::u1 0::u 26::sq u 0 26 []) K3 bel fun u2 w2 D bel=>?_
   have E2_26:=D.q 26
   clear D
   exact wp_ret (rt rfl E2_26 (lg_4 c4 c7) bel)
  ·
   have dc7:=of_decide_eq_false c7
   refine gs 27 (Amb Z0 W) fun _ K3=>?_
   refine .fz rfl 1 0 E1_0 ?_
   refine .fj rfl 0 1 ?_
   refine .lc rfl 1 B2 ?_ (V:=.string r.a.s)
   refine .e rfl (V:=.int .i64 ((r.a.s.size:Nat):Int)) (fun H=>by have e5:=H.g 5 2; clear H; go_simp) ?_
   refine .e rfl (V:=.bool false) (fun H=>x_cm (H.g 6 3) (H.c _) c4) ?_
   refine .mv rfl 4 ?_
   refine .sk rfl 5 ?_
   refine .sk rfl 5 ?_
   refine .sk rfl 5 ?_
   refine .sk rfl 5 ?_
   refine .sk rfl 5 ?_
   refine .e rfl (fun H=>x_pkF (H.g 8 5) (H.c _)) ?_
   refine .mv rfl 11 ?_
   refine .fz rfl 1 2 E1_0 ?_ (hg:=gq 12 rfl)
   refine .fj rfl 13 3 ?_ (hg:=gq 12 rfl)
   refine .lc rfl 14 B2 ?_ (V:=.string r.b.s) (hg:=gq 12 rfl)
   refine .e rfl (V:=.int .i64 ((r.b.s.size:Nat):Int)) (fun H=>by have e18:=H.g 18 15; clear H; go_simp) ?_ (hg:=gq 12 rfl)
   refine .e rfl (V:=.bool false) (fun H=>x_cm (H.g 19 16) (H.c _) c7) ?_ (hg:=gq 12 rfl)
   refine .mv rfl 17 ?_ (hg:=gq 12 rfl)
   refine .sk rfl 18 ?_
   refine .sk rfl 18 ?_
   refine .sk rfl 18 ?_
   refine .sk rfl 18 ?_
   refine .sk rfl 18 ?_
   refine .e rfl (fun H=>x_pkF (H.g 21 18) (H.c _)) ?_ (hg:=gq 12 rfl)
   refine .e rfl (fun H=>x_pkF (H.g 15 12) (H.g 27 24)) ?_
   refine .mv rfl 25 ?_
   refine .dk (fun u=>rfV r::u1 0::u 26::sq u 0 26 []) K3 bel fun u2 w2 D bel=>?_
   have E2_26:=D.q 26
   clear D
   exact wp_ret (rt rfl E2_26 (lg_5 c4 c7) bel)
theorem l14long {b1:Nat} (a:RG) (b:RG) (c:RG) (d:RG) (B1:W.heap[b1]? = some (.cells #[.bool a.re.a.n,.string a.re.a.s,.bool a.re.b.n,.string a.re.b.s,.bool a.im.a.n,.string a.im.a.s,.bool a.im.b.n,.string a.im.b.s,.bool b.re.a.n,.string b.re.a.s,.bool b.re.b.n,.string b.re.b.s,.bool b.im.a.n,.string b.im.a.s,.bool b.im.b.n,.string b.im.b.s,.bool c.re.a.n,.string c.re.a.s,.bool c.re.b.n,.string c.re.b.s,.bool c.im.a.n,.string c.im.a.s,.bool c.im.b.n,.string c.im.b.s,.bool d.re.a.n,.string d.re.a.s,.bool d.re.b.n,.string d.re.b.s,.bool d.im.a.n,.string d.im.a.s,.bool d.im.b.n,.string d.im.b.s] 27 (0,0))) :
  Calls Tryz.prog 23 #[.slice (some ⟨b1,0,none⟩) 4 4] W (RetV (.bool (lgG a || lgG b || lgG c || lgG d)) W):=by
 have X1:=lt_of B1
 have bel:=b0 W
 go_enter Tryz.func23,Tryz.ntmps23
 refine gs 1 (Amb Z0 W) fun _ K2=>?_
 refine .mc rfl ?_
 refine .dk (fun u=>.slice (some ⟨b1,0,none⟩) 4 4::U::u 0::us 21) K2 bel fun u1 w1 D bel=>?_
 have E1_0:=D.q 0
 replace B1:=D.k B1
 clear D
 refine wp_seq_k fun _ K3=>?_
 refine gs 1 (Amb Z0 W) fun _ K4=>?_
 refine .mc rfl ?_
 refine .dk (fun u=>.slice (some ⟨b1,0,none⟩) 4 4::U::u1 0::u 0::us 20) K4 bel fun u2 w2 D bel=>?_
 have E2_0:=D.q 0
 replace B1:=D.k B1
 clear D
 refine wp_block ?_
 refine wp_loop_rounds 5 ?_
 refine rounds_k fun K5 hK5=>?_
 refine wp_seq_k fun _ K6=>?_
 refine gs 4 (Amb Z0 W) fun _ K7=>?_
 refine .mz rfl 3 E2_0 ?_
 refine .mz rfl 0 (V:=.slice (some ⟨b1,0,none⟩) 4 4) rfl ?_
 refine .e rfl (V:=.int .i64 4) (fun H=>x_lens (H.g 5 1)) ?_
 refine .e rfl (V:=.bool true) (fun H=>x_cmp (H.g 4 0) (H.g 6 2)) ?_
 refine .dk (fun u=>.slice (some ⟨b1,0,none⟩) 4 4::U::u1 0::u2 0::sq u 0 4 (us 16)) K7 bel fun u3 w3 D bel=>?_
 have E3_0:=D.q 0
 have E3_1:=D.q 1
 have E3_2:=D.q 2
 have E3_3:=D.q 3
 replace B1:=D.k B1
 clear D
 refine wp_cond_true (by exact E3_3) ?_
 refine wp_skip ?_
 refine K6 _ _ ?_
 refine wp_seq_k fun _ K8=>?_
 refine wp_block ?_
 rcases Bool.eq_false_or_eq_true (lgF a.re) with c10 | c10
 ·
  refine gs 14 (Amb Z0 W) fun _ K9=>?_
  refine .mz rfl 0 (V:=.slice (some ⟨b1,0,none⟩) 4 4) rfl ?_
  refine .mz rfl 3 E2_0 ?_
  refine .e rfl (V:=pt b1) (fun H=>x_ixs 8 (H.g 10 0) (H.g 11 1)) ?_
  refine .fj rfl 2 0 ?_
  refine .lp rfl 3 (rfC a.re) B1 ?_
  refine .cK rfl (V:=.bool true) Tryz.func129 (fun H=>⟨_,ar1 (H.g 14 4),reV (congrArg Value.bool c10) (l14longF _)⟩) ?_
  refine .mv rfl 5 ?_
  refine .sk rfl 6 ?_
  refine .sk rfl 6 ?_
  refine .sk rfl 6 ?_
  refine .sk rfl 6 ?_
  refine .sk rfl 6 ?_
  refine .sk rfl 6 ?_
  refine .e rfl (fun H=>x_pkT (H.g 16 6) (H.c _)) ?_
  refine .dk (fun u=>.slice (some ⟨b1,0,none⟩) 4 4::U::u1 0::u2 0::sq u3 0 4 (U::U::sq u 0 14 [])) K9 bel fun u4 w4 D bel=>?_
  have E4_0:=D.q 0
  have E4_1:=D.q 1
  have E4_2:=D.q 2
  have E4_3:=D.q 3
  have E4_4:=D.q 4
  have E4_5:=D.q 5
  have E4_6:=D.q 6
  have E4_13:=D.q 13
  replace B1:=D.k B1
  clear D
  refine wp_cond_true (by exact E4_13) ?_
  refine gs 1 (Amb Z0 W) fun _ K11=>?_
  refine .mc rfl ?_
  refine .dk (fun u=>.slice (some ⟨b1,0,none⟩) 4 4::U::u 0::u2 0::sq u3 0 4 (U::U::sq u4 0 14 [])) K11 bel fun u5 w5 D bel=>?_
  have E5_0:=D.q 0
  clear D
  exact wp_ret (rt rfl E5_0 (by unfold lgG; simp [c10]) bel)
 ·
  refine gs 14 (Amb Z0 W) fun _ K9=>?_
  refine .mz rfl 0 (V:=.slice (some ⟨b1,0,none⟩) 4 4) rfl ?_
  refine .mz rfl 3 E2_0 ?_
  refine .e rfl (V:=pt b1) (fun H=>x_ixs 8 (H.g 10 0) (H.g 11 1)) ?_
  refine .fj rfl 2 0 ?_
  refine .lp rfl 3 (rfC a.re) B1 ?_
  refine .cK rfl (V:=.bool false) Tryz.func129 (fun H=>⟨_,ar1 (H.g 14 4),reV (congrArg Value.bool c10) (l14longF _)⟩) ?_
  refine .mv rfl 5 ?_
  refine .mz rfl 0 (V:=.slice (some ⟨b1,0,none⟩) 4 4) rfl ?_ (hg:=gq 6 rfl)
  refine .mz rfl 3 E2_0 ?_ (hg:=gq 6 rfl)
  refine .e rfl (V:=pt b1) (fun H=>x_ixs 8 (H.g 17 7) (H.g 18 8)) ?_ (hg:=gq 6 rfl)
  refine .fj rfl 9 4 ?_ (hg:=gq 6 rfl)
  refine .lp rfl 10 (rfC a.im) B1 ?_ (hg:=gq 6 rfl)
  refine .cK rfl Tryz.func129 (fun H=>⟨_,ar1 (H.g 21 11),l14longF _⟩) ?_ (hg:=gq 6 rfl)
  refine .e rfl (fun H=>x_pkF (H.g 16 6) (H.g 22 12)) ?_
  refine .dk (fun u=>.slice (some ⟨b1,0,none⟩) 4 4::U::u1 0::u2 0::sq u3 0 4 (U::U::sq u 0 14 [])) K9 bel fun u4 w4 D bel=>?_
  have E4_0:=D.q 0
  have E4_1:=D.q 1
  have E4_2:=D.q 2
  have E4_3:=D.q 3
  have E4_4:=D.q 4
  have E4_5:=D.q 5
  have E4_6:=D.q 6
  have E4_7:=D.q 7
  have E4_8:=D.q 8
  have E4_9:=D.q 9
  have E4_10:=D.q 10
  have E4_11:=D.q 11
  have E4_12:=D.q 12
  have E4_13:=D.q 13
  replace B1:=D.k B1
  clear D
  rcases Bool.eq_false_or_eq_true (lgF a.im) with c12 | c12
  ·
   refine wp_cond_true ((E4_13).trans (congrArg Value.bool c12)) ?_
   refine gs 1 (Amb Z0 W) fun _ K13=>?_
   refine .mc rfl ?_
   refine .dk (fun u=>.slice (some ⟨b1,0,none⟩) 4 4::U::u 0::u2 0::sq u3 0 4 (U::U::sq u4 0 14 [])) K13 bel fun u5 w5 D bel=>?_
   have E5_0:=D.q 0
   clear D
   exact wp_ret (rt rfl E5_0 (by unfold lgG; simp [c10,c12]) bel)
  ·
   refine wp_cond_false ((E4_13).trans (congrArg Value.bool c12)) ?_
   refine wp_skip ?_
   refine inBlock_normal ?_
   refine K8 _ _ ?_
   refine wp_region_list ?_
   refine wpT_val rfl (ex_move rfl) ?_
   refine wpT_val (v:=.int .i64 1) rfl (by have aw_:IntKind.wrap .i64 1 = 1:=(by decide); have:=E2_0; go_simp) ?_
   refine wpT_val rfl (ex_assign rfl) ?_
   refine wpList_nil ?_
   show _
   refine hK5 _ _ ?_
   refine rounds_k fun K14 hK14=>?_
   refine wp_seq_k fun _ K15=>?_
   refine gs 4 (Amb Z0 W) fun _ K16=>?_
   refine .mz rfl 3 (V:=.int .i64 1) rfl ?_
   refine .mz rfl 0 (V:=.slice (some ⟨b1,0,none⟩) 4 4) rfl ?_
   refine .e rfl (V:=.int .i64 4) (fun H=>x_lens (H.g 5 1)) ?_
   refine .e rfl (V:=.bool true) (fun H=>x_cmp (H.g 4 0) (H.g 6 2)) ?_
   refine .dk (fun u=>.slice (some ⟨b1,0,none⟩) 4 4::U::u1 0::.int .i64 1::sq u 0 4 (u2 0::.int .i64 1::sq u4 0 14 [])) K16 bel fun u7 w7 D bel=>?_
   have E7_0:=D.q 0
   have E7_1:=D.q 1
   have E7_2:=D.q 2
   have E7_3:=D.q 3
   replace B1:=D.k B1
   clear D
   refine wp_cond_true (by exact E7_3) ?_
   refine wp_skip ?_
   refine K15 _ _ ?_
   refine wp_seq_k fun _ K17=>?_
   refine wp_block ?_
   rcases Bool.eq_false_or_eq_true (lgF b.re) with c19 | c19
   ·
    refine gs 14 (Amb Z0 W) fun _ K18=>?_
    refine .mz rfl 0 (V:=.slice (some ⟨b1,0,none⟩) 4 4) rfl ?_
    refine .mz rfl 3 (V:=.int .i64 1) rfl ?_
    refine .e rfl (V:=.pointer (some ⟨b1,8,none⟩)) (fun H=>x_ixs 8 (H.g 10 0) (H.g 11 1)) ?_
    refine .fj rfl 2 8 ?_
    refine .lp rfl 3 (rfC b.re) B1 ?_
    refine .cK rfl (V:=.bool true) Tryz.func129 (fun H=>⟨_,ar1 (H.g 14 4),reV (congrArg Value.bool c19) (l14longF _)⟩) ?_
    refine .mv rfl 5 ?_
    refine .sk rfl 6 ?_
    refine .sk rfl 6 ?_
    refine .sk rfl 6 ?_
    refine .sk rfl 6 ?_
    refine .sk rfl 6 ?_
    refine .sk rfl 6 ?_
    refine .e rfl (fun H=>x_pkT (H.g 16 6) (H.c _)) ?_
    refine .dk (fun u=>.slice (some ⟨b1,0,none⟩) 4 4::U::u1 0::.int .i64 1::sq u7 0 4 (u2 0::.int .i64 1::sq u 0 14 [])) K18 bel fun u8 w8 D bel=>?_
    have E8_0:=D.q 0
    have E8_1:=D.q 1
    have E8_2:=D.q 2
    have E8_3:=D.q 3
    have E8_4:=D.q 4
    have E8_5:=D.q 5
    have E8_6:=D.q 6
    have E8_13:=D.q 13
    replace B1:=D.k B1
    clear D
    refine wp_cond_true (by exact E8_13) ?_
    refine gs 1 (Amb Z0 W) fun _ K20=>?_
    refine .mc rfl ?_
    refine .dk (fun u=>.slice (some ⟨b1,0,none⟩) 4 4::U::u 0::.int .i64 1::sq u7 0 4 (u2 0::.int .i64 1::sq u8 0 14 [])) K20 bel fun u9 w9 D bel=>?_
    have E9_0:=D.q 0
    clear D
    exact wp_ret (rt rfl E9_0 (by unfold lgG; simp [c10,c12,c19]) bel)
   ·
    refine gs 14 (Amb Z0 W) fun _ K18=>?_
    refine .mz rfl 0 (V:=.slice (some ⟨b1,0,none⟩) 4 4) rfl ?_
    refine .mz rfl 3 (V:=.int .i64 1) rfl ?_
    refine .e rfl (V:=.pointer (some ⟨b1,8,none⟩)) (fun H=>x_ixs 8 (H.g 10 0) (H.g 11 1)) ?_
    refine .fj rfl 2 8 ?_
    refine .lp rfl 3 (rfC b.re) B1 ?_
    refine .cK rfl (V:=.bool false) Tryz.func129 (fun H=>⟨_,ar1 (H.g 14 4),reV (congrArg Value.bool c19) (l14longF _)⟩) ?_
    refine .mv rfl 5 ?_
    refine .mz rfl 0 (V:=.slice (some ⟨b1,0,none⟩) 4 4) rfl ?_ (hg:=gq 6 rfl)
    refine .mz rfl 3 (V:=.int .i64 1) rfl ?_ (hg:=gq 6 rfl)
    refine .e rfl (V:=.pointer (some ⟨b1,8,none⟩)) (fun H=>x_ixs 8 (H.g 17 7) (H.g 18 8)) ?_ (hg:=gq 6 rfl)
    refine .fj rfl 9 12 ?_ (hg:=gq 6 rfl)
    refine .lp rfl 10 (rfC b.im) B1 ?_ (hg:=gq 6 rfl)
    refine .cK rfl Tryz.func129 (fun H=>⟨_,ar1 (H.g 21 11),l14longF _⟩) ?_ (hg:=gq 6 rfl)
    refine .e rfl (fun H=>x_pkF (H.g 16 6) (H.g 22 12)) ?_
    refine .dk (fun u=>.slice (some ⟨b1,0,none⟩) 4 4::U::u1 0::.int .i64 1::sq u7 0 4 (u2 0::.int .i64 1::sq u 0 14 [])) K18 bel fun u8 w8 D bel=>?_
    have E8_0:=D.q 0
    have E8_1:=D.q 1
    have E8_2:=D.q 2
    have E8_3:=D.q 3
    have E8_4:=D.q 4
    have E8_5:=D.q 5
    have E8_6:=D.q 6
    have E8_7:=D.q 7
    have E8_8:=D.q 8
    have E8_9:=D.q 9
    have E8_10:=D.q 10
    have E8_11:=D.q 11
    have E8_12:=D.q 12
    have E8_13:=D.q 13
    replace B1:=D.k B1
    clear D
    rcases Bool.eq_false_or_eq_true (lgF b.im) with c21 | c21
    ·
     refine wp_cond_true ((E8_13).trans (congrArg Value.bool c21)) ?_
     refine gs 1 (Amb Z0 W) fun _ K22=>?_
     refine .mc rfl ?_
     refine .dk (fun u=>.slice (some ⟨b1,0,none⟩) 4 4::U::u 0::.int .i64 1::sq u7 0 4 (u2 0::.int .i64 1::sq u8 0 14 [])) K22 bel fun u9 w9 D bel=>?_
     have E9_0:=D.q 0
     clear D
     exact wp_ret (rt rfl E9_0 (by unfold lgG; simp [c10,c12,c19,c21]) bel)
    ·
     refine wp_cond_false ((E8_13).trans (congrArg Value.bool c21)) ?_
     refine wp_skip ?_
     refine inBlock_normal ?_
     refine K17 _ _ ?_
     refine wp_region_list ?_
     refine wpT_val rfl (ex_move rfl) ?_
     refine wpT_val (v:=.int .i64 2) rfl (by have aw_:IntKind.wrap .i64 2 = 2:=(by decide); go_simp) ?_
     refine wpT_val rfl (ex_assign rfl) ?_
     refine wpList_nil ?_
     show _
     refine hK14 _ _ ?_
     refine rounds_k fun K23 hK23=>?_
     refine wp_seq_k fun _ K24=>?_
     refine gs 4 (Amb Z0 W) fun _ K25=>?_
     refine .mz rfl 3 (V:=.int .i64 2) rfl ?_
     refine .mz rfl 0 (V:=.slice (some ⟨b1,0,none⟩) 4 4) rfl ?_
     refine .e rfl (V:=.int .i64 4) (fun H=>x_lens (H.g 5 1)) ?_
     refine .e rfl (V:=.bool true) (fun H=>x_cmp (H.g 4 0) (H.g 6 2)) ?_
     refine .dk (fun u=>.slice (some ⟨b1,0,none⟩) 4 4::U::u1 0::.int .i64 2::sq u 0 4 (.int .i64 1::.int .i64 2::sq u8 0 14 [])) K25 bel fun u11 w11 D bel=>?_
     have E11_0:=D.q 0
     have E11_1:=D.q 1
     have E11_2:=D.q 2
     have E11_3:=D.q 3
     replace B1:=D.k B1
     clear D
     refine wp_cond_true (by exact E11_3) ?_
     refine wp_skip ?_
     refine K24 _ _ ?_
     refine wp_seq_k fun _ K26=>?_
     refine wp_block ?_
     rcases Bool.eq_false_or_eq_true (lgF c.re) with c28 | c28
     ·
      refine gs 14 (Amb Z0 W) fun _ K27=>?_
      refine .mz rfl 0 (V:=.slice (some ⟨b1,0,none⟩) 4 4) rfl ?_
      refine .mz rfl 3 (V:=.int .i64 2) rfl ?_
      refine .e rfl (V:=.pointer (some ⟨b1,16,none⟩)) (fun H=>x_ixs 8 (H.g 10 0) (H.g 11 1)) ?_
      refine .fj rfl 2 16 ?_
      refine .lp rfl 3 (rfC c.re) B1 ?_
      refine .cK rfl (V:=.bool true) Tryz.func129 (fun H=>⟨_,ar1 (H.g 14 4),reV (congrArg Value.bool c28) (l14longF _)⟩) ?_
      refine .mv rfl 5 ?_
      refine .sk rfl 6 ?_
      refine .sk rfl 6 ?_
      refine .sk rfl 6 ?_
      refine .sk rfl 6 ?_
      refine .sk rfl 6 ?_
      refine .sk rfl 6 ?_
      refine .e rfl (fun H=>x_pkT (H.g 16 6) (H.c _)) ?_
      refine .dk (fun u=>.slice (some ⟨b1,0,none⟩) 4 4::U::u1 0::.int .i64 2::sq u11 0 4 (.int .i64 1::.int .i64 2::sq u 0 14 [])) K27 bel fun u12 w12 D bel=>?_
      have E12_0:=D.q 0
      have E12_1:=D.q 1
      have E12_2:=D.q 2
      have E12_3:=D.q 3
      have E12_4:=D.q 4
      have E12_5:=D.q 5
      have E12_6:=D.q 6
      have E12_13:=D.q 13
      replace B1:=D.k B1
      clear D
      refine wp_cond_true (by exact E12_13) ?_
      refine gs 1 (Amb Z0 W) fun _ K29=>?_
      refine .mc rfl ?_
      refine .dk (fun u=>.slice (some ⟨b1,0,none⟩) 4 4::U::u 0::.int .i64 2::sq u11 0 4 (.int .i64 1::.int .i64 2::sq u12 0 14 [])) K29 bel fun u13 w13 D bel=>?_
      have E13_0:=D.q 0
      clear D
      exact wp_ret (rt rfl E13_0 (by unfold lgG; simp [c10,c12,c19,c21,c28]) bel)
     ·
      refine gs 14 (Amb Z0 W) fun _ K27=>?_
      refine .mz rfl 0 (V:=.slice (some ⟨b1,0,none⟩) 4 4) rfl ?_
      refine .mz rfl 3 (V:=.int .i64 2) rfl ?_
      refine .e rfl (V:=.pointer (some ⟨b1,16,none⟩)) (fun H=>x_ixs 8 (H.g 10 0) (H.g 11 1)) ?_
      refine .fj rfl 2 16 ?_
      refine .lp rfl 3 (rfC c.re) B1 ?_
      refine .cK rfl (V:=.bool false) Tryz.func129 (fun H=>⟨_,ar1 (H.g 14 4),reV (congrArg Value.bool c28) (l14longF _)⟩) ?_
      refine .mv rfl 5 ?_
      refine .mz rfl 0 (V:=.slice (some ⟨b1,0,none⟩) 4 4) rfl ?_ (hg:=gq 6 rfl)
      refine .mz rfl 3 (V:=.int .i64 2) rfl ?_ (hg:=gq 6 rfl)
      refine .e rfl (V:=.pointer (some ⟨b1,16,none⟩)) (fun H=>x_ixs 8 (H.g 17 7) (H.g 18 8)) ?_ (hg:=gq 6 rfl)
      refine .fj rfl 9 20 ?_ (hg:=gq 6 rfl)
      refine .lp rfl 10 (rfC c.im) B1 ?_ (hg:=gq 6 rfl)
      refine .cK rfl Tryz.func129 (fun H=>⟨_,ar1 (H.g 21 11),l14longF _⟩) ?_ (hg:=gq 6 rfl)
      refine .e rfl (fun H=>x_pkF (H.g 16 6) (H.g 22 12)) ?_
      refine .dk (fun u=>.slice (some ⟨b1,0,none⟩) 4 4::U::u1 0::.int .i64 2::sq u11 0 4 (.int .i64 1::.int .i64 2::sq u 0 14 [])) K27 bel fun u12 w12 D bel=>?_
      have E12_0:=D.q 0
      have E12_1:=D.q 1
      have E12_2:=D.q 2
      have E12_3:=D.q 3
      have E12_4:=D.q 4
      have E12_5:=D.q 5
      have E12_6:=D.q 6
      have E12_7:=D.q 7
      have E12_8:=D.q 8
      have E12_9:=D.q 9
      have E12_10:=D.q 10
      have E12_11:=D.q 11
      have E12_12:=D.q 12
      have E12_13:=D.q 13
      replace B1:=D.k B1
      clear D
      rcases Bool.eq_false_or_eq_true (lgF c.im) with c30 | c30
      ·
       refine wp_cond_true ((E12_13).trans (congrArg Value.bool c30)) ?_
       refine gs 1 (Amb Z0 W) fun _ K31=>?_
       refine .mc rfl ?_
       refine .dk (fun u=>.slice (some ⟨b1,0,none⟩) 4 4::U::u 0::.int .i64 2::sq u11 0 4 (.int .i64 1::.int .i64 2::sq u12 0 14 [])) K31 bel fun u13 w13 D bel=>?_
       have E13_0:=D.q 0
       clear D
       exact wp_ret (rt rfl E13_0 (by unfold lgG; simp [c10,c12,c19,c21,c28,c30]) bel)
      ·
       refine wp_cond_false ((E12_13).trans (congrArg Value.bool c30)) ?_
       refine wp_skip ?_
       refine inBlock_normal ?_
       refine K26 _ _ ?_
       refine wp_region_list ?_
       refine wpT_val rfl (ex_move rfl) ?_
       refine wpT_val (v:=.int .i64 3) rfl (by have aw_:IntKind.wrap .i64 3 = 3:=(by decide); go_simp) ?_
       refine wpT_val rfl (ex_assign rfl) ?_
       refine wpList_nil ?_
       show _
       refine hK23 _ _ ?_
       refine rounds_k fun K32 hK32=>?_
       refine wp_seq_k fun _ K33=>?_
       refine gs 4 (Amb Z0 W) fun _ K34=>?_
       refine .mz rfl 3 (V:=.int .i64 3) rfl ?_
       refine .mz rfl 0 (V:=.slice (some ⟨b1,0,none⟩) 4 4) rfl ?_
       refine .e rfl (V:=.int .i64 4) (fun H=>x_lens (H.g 5 1)) ?_
       refine .e rfl (V:=.bool true) (fun H=>x_cmp (H.g 4 0) (H.g 6 2)) ?_
       refine .dk (fun u=>.slice (some ⟨b1,0,none⟩) 4 4::U::u1 0::.int .i64 3::sq u 0 4 (.int .i64 2::.int .i64 3::sq u12 0 14 [])) K34 bel fun u15 w15 D bel=>?_
       have E15_0:=D.q 0
       have E15_1:=D.q 1
       have E15_2:=D.q 2
       have E15_3:=D.q 3
       replace B1:=D.k B1
       clear D
       refine wp_cond_true (by exact E15_3) ?_
       refine wp_skip ?_
       refine K33 _ _ ?_
       refine wp_seq_k fun _ K35=>?_
       refine wp_block ?_
       rcases Bool.eq_false_or_eq_true (lgF d.re) with c37 | c37
       ·
        refine gs 14 (Amb Z0 W) fun _ K36=>?_
        refine .mz rfl 0 (V:=.slice (some ⟨b1,0,none⟩) 4 4) rfl ?_
        refine .mz rfl 3 (V:=.int .i64 3) rfl ?_
        refine .e rfl (V:=.pointer (some ⟨b1,24,none⟩)) (fun H=>x_ixs 8 (H.g 10 0) (H.g 11 1)) ?_
        refine .fj rfl 2 24 ?_
        refine .lp rfl 3 (rfC d.re) B1 ?_
        refine .cK rfl (V:=.bool true) Tryz.func129 (fun H=>⟨_,ar1 (H.g 14 4),reV (congrArg Value.bool c37) (l14longF _)⟩) ?_
        refine .mv rfl 5 ?_
        refine .sk rfl 6 ?_
        refine .sk rfl 6 ?_
        refine .sk rfl 6 ?_
        refine .sk rfl 6 ?_
        refine .sk rfl 6 ?_
        refine .sk rfl 6 ?_
        refine .e rfl (fun H=>x_pkT (H.g 16 6) (H.c _)) ?_
        refine .dk (fun u=>.slice (some ⟨b1,0,none⟩) 4 4::U::u1 0::.int .i64 3::sq u15 0 4 (.int .i64 2::.int .i64 3::sq u 0 14 [])) K36 bel fun u16 w16 D bel=>?_
        have E16_0:=D.q 0
        have E16_1:=D.q 1
        have E16_2:=D.q 2
        have E16_3:=D.q 3
        have E16_4:=D.q 4
        have E16_5:=D.q 5
        have E16_6:=D.q 6
        have E16_13:=D.q 13
        replace B1:=D.k B1
        clear D
        refine wp_cond_true (by exact E16_13) ?_
        refine gs 1 (Amb Z0 W) fun _ K38=>?_
        refine .mc rfl ?_
        refine .dk (fun u=>.slice (some ⟨b1,0,none⟩) 4 4::U::u 0::.int .i64 3::sq u15 0 4 (.int .i64 2::.int .i64 3::sq u16 0 14 [])) K38 bel fun u17 w17 D bel=>?_
        have E17_0:=D.q 0
        clear D
        exact wp_ret (rt rfl E17_0 (by unfold lgG; simp [c10,c12,c19,c21,c28,c30,c37]) bel)
       ·
        refine gs 14 (Amb Z0 W) fun _ K36=>?_
        refine .mz rfl 0 (V:=.slice (some ⟨b1,0,none⟩) 4 4) rfl ?_
        refine .mz rfl 3 (V:=.int .i64 3) rfl ?_
        refine .e rfl (V:=.pointer (some ⟨b1,24,none⟩)) (fun H=>x_ixs 8 (H.g 10 0) (H.g 11 1)) ?_
        refine .fj rfl 2 24 ?_
        refine .lp rfl 3 (rfC d.re) B1 ?_
        refine .cK rfl (V:=.bool false) Tryz.func129 (fun H=>⟨_,ar1 (H.g 14 4),reV (congrArg Value.bool c37) (l14longF _)⟩) ?_
        refine .mv rfl 5 ?_
        refine .mz rfl 0 (V:=.slice (some ⟨b1,0,none⟩) 4 4) rfl ?_ (hg:=gq 6 rfl)
        refine .mz rfl 3 (V:=.int .i64 3) rfl ?_ (hg:=gq 6 rfl)
        refine .e rfl (V:=.pointer (some ⟨b1,24,none⟩)) (fun H=>x_ixs 8 (H.g 17 7) (H.g 18 8)) ?_ (hg:=gq 6 rfl)
        refine .fj rfl 9 28 ?_ (hg:=gq 6 rfl)
        refine .lp rfl 10 (rfC d.im) B1 ?_ (hg:=gq 6 rfl)
        refine .cK rfl Tryz.func129 (fun H=>⟨_,ar1 (H.g 21 11),l14longF _⟩) ?_ (hg:=gq 6 rfl)
        refine .e rfl (fun H=>x_pkF (H.g 16 6) (H.g 22 12)) ?_
        refine .dk (fun u=>.slice (some ⟨b1,0,none⟩) 4 4::U::u1 0::.int .i64 3::sq u15 0 4 (.int .i64 2::.int .i64 3::sq u 0 14 [])) K36 bel fun u16 w16 D bel=>?_
        have E16_0:=D.q 0
        have E16_1:=D.q 1
        have E16_2:=D.q 2
        have E16_3:=D.q 3
        have E16_4:=D.q 4
        have E16_5:=D.q 5
        have E16_6:=D.q 6
        have E16_7:=D.q 7
        have E16_8:=D.q 8
        have E16_9:=D.q 9
        have E16_10:=D.q 10
        have E16_11:=D.q 11
        have E16_12:=D.q 12
        have E16_13:=D.q 13
        replace B1:=D.k B1
        clear D
        rcases Bool.eq_false_or_eq_true (lgF d.im) with c39 | c39
        ·
         refine wp_cond_true ((E16_13).trans (congrArg Value.bool c39)) ?_
         refine gs 1 (Amb Z0 W) fun _ K40=>?_
         refine .mc rfl ?_
         refine .dk (fun u=>.slice (some ⟨b1,0,none⟩) 4 4::U::u 0::.int .i64 3::sq u15 0 4 (.int .i64 2::.int .i64 3::sq u16 0 14 [])) K40 bel fun u17 w17 D bel=>?_
         have E17_0:=D.q 0
         clear D
         exact wp_ret (rt rfl E17_0 (by unfold lgG; simp [c10,c12,c19,c21,c28,c30,c37,c39]) bel)
        ·
         refine wp_cond_false ((E16_13).trans (congrArg Value.bool c39)) ?_
         refine wp_skip ?_
         refine inBlock_normal ?_
         refine K35 _ _ ?_
         refine wp_region_list ?_
         refine wpT_val rfl (ex_move rfl) ?_
         refine wpT_val (v:=.int .i64 4) rfl (by have aw_:IntKind.wrap .i64 4 = 4:=(by decide); go_simp) ?_
         refine wpT_val rfl (ex_assign rfl) ?_
         refine wpList_nil ?_
         show _
         refine hK32 _ _ ?_
         refine rounds_k fun K41 hK41=>?_
         refine wp_seq_k fun _ K42=>?_
         refine gs 4 (Amb Z0 W) fun _ K43=>?_
         refine .mz rfl 3 (V:=.int .i64 4) rfl ?_
         refine .mz rfl 0 (V:=.slice (some ⟨b1,0,none⟩) 4 4) rfl ?_
         refine .e rfl (V:=.int .i64 4) (fun H=>x_lens (H.g 5 1)) ?_
         refine .e rfl (V:=.bool false) (fun H=>x_cmp (H.g 4 0) (H.g 6 2)) ?_
         refine .dk (fun u=>.slice (some ⟨b1,0,none⟩) 4 4::U::u1 0::.int .i64 4::sq u 0 4 (.int .i64 3::.int .i64 4::sq u16 0 14 [])) K43 bel fun u19 w19 D bel=>?_
         have E19_0:=D.q 0
         have E19_1:=D.q 1
         have E19_2:=D.q 2
         have E19_3:=D.q 3
         replace B1:=D.k B1
         clear D
         refine wp_cond_false (by exact E19_3) ?_
         refine wp_exit ?_
         refine then_exit ?_
         refine then_exit ?_
         refine inBlock_here ?_
         refine K3 _ _ ?_
         refine gs 1 (Amb Z0 W) fun _ K44=>?_
         refine .mc rfl ?_
         refine .dk (fun u=>.slice (some ⟨b1,0,none⟩) 4 4::U::u 0::.int .i64 4::sq u19 0 4 (.int .i64 3::.int .i64 4::sq u16 0 14 [])) K44 bel fun u20 w20 D bel=>?_
         have E20_0:=D.q 0
         clear D
         exact wp_ret (rt rfl E20_0 (by unfold lgG; simp [c10,c12,c19,c21,c28,c30,c37,c39]) bel)
theorem iOver {v0:Value} (c:Ci) (t0:(RingP c).p S v0 W) (p0:ht c.a + ht c.b.re + ht c.b.im + ht c.c ≤ 1073741824) :
  Calls Tryz.prog 143 #[v0] W (Ret (MatP c.over) S W):=by
 obtain ⟨b1,x2,x3,b4,rfl,L1,L4,F1,F_x2,F_x3,F4⟩:=RingP.elim t0
 replace L1:Amb S W b1:=.inl L1
 replace F_x2:(RatN c.b.re).p (Amb S W) x2 W:=(RatN c.b.re).mono (fun _ _ h=>.inl h) F_x2
 replace F_x3:(RatN c.b.im).p (Amb S W) x3 W:=(RatN c.b.im).mono (fun _ _ h=>.inl h) F_x3
 replace L4:Amb S W b4:=.inl L4
 have h1:=hc_conj c.b
 have bel:=b0 W
 go_enter Tryz.func143,Tryz.ntmps143
 refine gs 2 (Amb S W) fun _ K5=>?_
 refine .bx rfl (fun H=>H.v 0 (.agg #[pt b1,x2,x3,pt b4])) ?_
 refine .al rfl (#[.pointer none,.pointer none,.pointer none,.pointer none,.pointer none,.pointer none,.pointer none,.pointer none,.bool false]) ?_
 refine .dk (fun u=>.agg #[pt b1,x2,x3,pt b4]::u 0::u 1::us 15) K5 bel fun u1 w1 D bel=>?_
 obtain ⟨b6,E1_0,A6,B6⟩:=D.nw 0
 obtain ⟨b7,E1_1,A7,B7⟩:=D.nw 1
 have N1_7:=D.n1 1 (RatP.lt F1) E1_1
 have N4_7:=D.n1 1 (RatP.lt F4) E1_1
 have N6_7:=D.n2 0 1 E1_0 E1_1
 replace F1:=D.o L1 F1
 replace F4:=D.o L4 F4
 replace F_x2:=D.gr (RatN c.b.re) F_x2
 replace F_x3:=D.gr (RatN c.b.im) F_x3
 clear D
 refine gd1 16 (Amb S W) 15 B7 fun _ K8=>?_
 refine .fz rfl 1 1 E1_0 ?_
 refine .e rfl (V:=.agg #[x2,x3]) (fun H=>x_ldp (H.g 3 0) (H.b1 B6 (Ne.symm N6_7))) ?_
 refine .cR rfl [] Tryz.func136 (fun H=>⟨_,ar1 (H.g 4 1),eConj c.b (NumP.mk (H.was _ [] F_x2) (H.was _ [] F_x3)) (by first | omega | (dsimp only at *; omega))⟩) ?_
 refine .cR rfl [2] Tryz.func138 (fun H=>⟨_,ar1 (H.r 5 2),eNeg c.b.conj (SV.sub [2] (H.a 2 rfl) rfl) (by first | omega | (dsimp only at *; omega))⟩) ?_
 refine .al rfl zQ ?_
 refine .fz rfl 1 3 E1_0 ?_
 refine .e rfl (V:=pt b4) (fun H=>x_ldc (H.g 8 5) (H.b1 B6 (Ne.symm N6_7))) ?_
 refine .cO rfl 4 Tryz.func189 (fun H h0 hz=>⟨_,ar2 (H.p 7 4 h0) (H.g 9 6),qNeg (x:=_) (RatBlk.of hz) (VP.any _ (H.was _ [] (VP.at F4 L4))) (by first | omega | (dsimp only at *; omega))⟩) ?_
 refine .cR rfl [4,7] Tryz.func176 (fun H=>⟨_,ar1 (H.r 10 7),eReal _ (Own.use (H.a 7 rfl) (H.a 4 rfl) [4,7] rfl)⟩) ?_
 refine .fz rfl 1 0 E1_0 ?_
 refine .e rfl (V:=pt b1) (fun H=>x_ldc (H.g 12 9) (H.b1 B6 (Ne.symm N6_7))) ?_
 refine .cR rfl [] Tryz.func176 (fun H=>⟨_,ar1 (H.g 13 10),eReal _ (H.was _ [] (VP.at F1 L1))⟩) ?_
 refine .fz rfl 1 1 E1_0 ?_
 refine .e rfl (V:=.agg #[x2,x3]) (fun H=>x_ldp (H.g 15 12) (H.b1 B6 (Ne.symm N6_7))) ?_
 refine Go2.fn (i:=14) rfl (G0 rfl) (SP.fnL 14 [3,8,11] (fun u=>.agg #[(u 3).v.cells.getD 0 undef,(u 3).v.cells.getD 1 undef,(u 8).v.cells.getD 0 undef,(u 8).v.cells.getD 1 undef,(u 11).v.cells.getD 0 undef,(u 11).v.cells.getD 1 undef,x2,x3,.bool true]) (by intro u u' h; simp [h 3 (by simp),h 8 (by simp),h 11 (by simp)])) (fun u μ ρ H=>⟨_,by have e6:=H.r 6 3; have e11:=H.r 11 8; have e14:=H.r 14 11; have e16:=H.g 16 13; have k4:=H.c (.bool true); obtain ⟨x1_3,x2_3,h1_3,h2_3,h3_3⟩:=(H.a 3 rfl); obtain ⟨x1_8,x2_8,h1_8,h2_8,h3_8⟩:=(H.a 8 rfl); obtain ⟨x1_11,x2_11,h1_11,h2_11,h3_11⟩:=(H.a 11 rfl); clear H; go_simp,SP.fnL_upd (by decide)⟩) ?_
 refine Go2.storeOld (i:=15) 0 b7 rfl rfl rfl ⟨_,_,_,B7,rfl⟩ (SP.old 0 b7 [3,8,11] (fun u=>#[((u 3).v.cells.getD 0 undef),((u 3).v.cells.getD 1 undef),((u 8).v.cells.getD 0 undef),((u 8).v.cells.getD 1 undef),((u 11).v.cells.getD 0 undef),((u 11).v.cells.getD 1 undef),x2,x3,.bool true]) 198 (by intro u u' h; simp [h 3 (by simp),h 8 (by simp),h 11 (by simp)]) (lt_of B7) (by intro y k hy; match y,hy with | 0,hy=>rfl)) (fun u μ ρ H=>?_) ?_
 · have e2:=H.z 2 E1_1; have e17:=H.e 17 14 (by kernel_rfl) (H.a 14 rfl); have op3_0:((u 3).v.cells[0]?.getD undef).oneCell' = true:=(by obtain ⟨x1,x2,h1,h2,h3⟩:=(H.a 3 rfl); rw [h1]; exact VP1.ratn h2); have op3_1:((u 3).v.cells[1]?.getD undef).oneCell' = true:=(by obtain ⟨x1,x2,h1,h2,h3⟩:=(H.a 3 rfl); rw [h1]; exact VP1.ratn h3); have op8_0:((u 8).v.cells[0]?.getD undef).oneCell' = true:=(by obtain ⟨x1,x2,h1,h2,h3⟩:=(H.a 8 rfl); rw [h1]; exact VP1.ratn h2); have op8_1:((u 8).v.cells[1]?.getD undef).oneCell' = true:=(by obtain ⟨x1,x2,h1,h2,h3⟩:=(H.a 8 rfl); rw [h1]; exact VP1.ratn h3); have op11_0:((u 11).v.cells[0]?.getD undef).oneCell' = true:=(by obtain ⟨x1,x2,h1,h2,h3⟩:=(H.a 11 rfl); rw [h1]; exact VP1.ratn h2); have op11_1:((u 11).v.cells[1]?.getD undef).oneCell' = true:=(by obtain ⟨x1,x2,h1,h2,h3⟩:=(H.a 11 rfl); rw [h1]; exact VP1.ratn h3); have o_x2:=VP1.ratn F_x2; have o_x3:=VP1.ratn F_x3; have hb:=H.blkOld B7 0 15 rfl (.inl rfl)
   refine ⟨μ.setRow b7 #[((u 3).v.cells.getD 0 undef),((u 3).v.cells.getD 1 undef),((u 8).v.cells.getD 0 undef),((u 8).v.cells.getD 1 undef),((u 11).v.cells.getD 0 undef),((u 11).v.cells.getD 1 undef),x2,x3,.bool true],ex_store_row 198 _ _ rfl e2 e17 hb (by kernel_rfl) rfl (by simp [op3_0,ptr1,op3_1,op8_0,op8_1,op11_0,op11_1,o_x2,o_x3] <;> rfl),fun g=>?_,setRow_only _ _ _⟩
   show (World.setRow _ _ _).heap[b7]? = _
   rw [setRow_at hb]; try simp [upd]
 refine .d1 (fun u=>.agg #[pt b1,x2,x3,pt b4]::u1 0::u1 1::sq u 0 15 []) K8 bel A7 fun u2 w2 D bel=>?_
 obtain ⟨x9,x10,E2_3,F_x9,F_x10⟩:=(D.rr 3)
 obtain ⟨x11,x12,E2_8,F_x11,F_x12⟩:=(D.rr 8)
 obtain ⟨x13,x14,E2_11,F_x13,F_x14⟩:=(D.rr 11)
 replace B7:w2.heap[b7]? = _:=(D.a 15 rfl)
 simp only [Value.cells,E2_3,E2_8,E2_11] at B7
 replace F_x2:=D.gr (RatN c.b.re) F_x2
 replace F_x3:=D.gr (RatN c.b.im) F_x3
 clear D
 refine wp_ret ?_
 refine ret_ok rfl (by exact results_row rfl (by exact E1_1) B7 Tryz.underlying198 rfl (by kernel_rfl)) ⟨_,rfl,?_,bel⟩
 exact (MatP.mk F_x9 F_x10 F_x11 F_x12 F_x13 F_x14 F_x2 F_x3)
theorem plTold {v0:Value} (p:Pn) (t0:(PlaceP p).p S v0 W) (p0:ht p.z.re + ht p.z.im ≤ 1073741824) :
  Calls Tryz.prog 158 #[v0] W (RetV (.tuple #[.agg #[.bool ((pncut p).inf),.bool ((((pncut p).z).re).a).n,.string ((((pncut p).z).re).a).s,.bool ((((pncut p).z).re).b).n,.string ((((pncut p).z).re).b).s,.bool ((((pncut p).z).im).a).n,.string ((((pncut p).z).im).a).s,.bool ((((pncut p).z).im).b).n,.string ((((pncut p).z).im).b).s],.int .i64 (pnerr p)]) W):=by
 obtain ⟨x1,x2,rfl,F_x1,F_x2⟩:=t0
 replace F_x1:(RatN p.z.re).p (Amb S W) x1 W:=(RatN p.z.re).mono (fun _ _ h=>.inl h) F_x1
 replace F_x2:(RatN p.z.im).p (Amb S W) x2 W:=(RatN p.z.im).mono (fun _ _ h=>.inl h) F_x2
 have bel:=b0 W
 go_enter Tryz.func158,Tryz.ntmps158
 refine gs 3 (Amb S W) fun _ K3=>?_
 refine .bx rfl (fun H=>H.v 0 (.agg #[.bool p.inf,x1,x2])) ?_
 refine .al rfl zPn ?_
 refine .mc rfl ?_
 refine .dk (fun u=>.agg #[.bool p.inf,x1,x2]::sq u 0 3 (us 14)) K3 bel fun u1 w1 D bel=>?_
 obtain ⟨b4,E1_0,A4,B4⟩:=D.nw 0
 obtain ⟨b5,E1_1,A5,B5⟩:=D.nw 1
 have E1_2:=D.q 2
 have N4_5:=D.n2 0 1 E1_0 E1_1
 replace F_x1:=D.gr (RatN p.z.re) F_x1
 replace F_x2:=D.gr (RatN p.z.im) F_x2
 clear D
 refine wp_seq_k fun _ K6=>?_
 refine gs 2 (Amb S W) fun _ K7=>?_
 refine .fz rfl 1 0 E1_0 ?_
 refine .lc rfl 0 B4 ?_ (V:=.bool p.inf)
 refine .dk (fun u=>.agg #[.bool p.inf,x1,x2]::sq u1 0 3 (U::U::u 0::u 1::us 10)) K7 bel fun u2 w2 D bel=>?_
 have E2_1:=D.q 1
 replace B4:=D.k B4
 replace B5:=D.k B5
 replace F_x1:=D.gr (RatN p.z.re) F_x1
 replace F_x2:=D.gr (RatN p.z.im) F_x2
 clear D
 rcases Bool.eq_false_or_eq_true p.inf with c8 | c8
 ·
  refine wp_cond_true ((E2_1).trans (congrArg Value.bool c8)) ?_
  refine gs1 3 (Amb S W) 1 B5 fun _ K9=>?_
  refine .e rfl (V:=.agg #[.bool true,.bool false,.string ⟨#[]⟩,.bool false,.string ⟨#[]⟩,.bool false,.string ⟨#[]⟩,.bool false,.string ⟨#[]⟩]) (fun H=>by have k0:=H.c (.bool true); clear H; go_simp) ?_
  refine .s1 rfl B5 (fun H=>⟨H.z 2 E1_1,H.g 8 0⟩) ?_
  refine .mc rfl ?_
  refine .d1 (fun u=>.agg #[.bool p.inf,x1,x2]::u1 0::u1 1::u 2::U::U::u2 0::u2 1::u 0::us 9) K9 bel A5 fun u3 w3 D bel=>?_
  have E3_2:=D.q 2
  replace B5:=D.ol 1
  clear D
  refine wp_ret ?_
  refine ret_ok rfl (by exact results_mix rfl (by exact E1_1) B5 Tryz.underlying56 rfl (by kernel_rfl) (by exact E3_2)) (RetV.mk ?_ bel)
  exact congrArg Ending.returned (pcut_inf c8)
 ·
  refine wp_cond_false ((E2_1).trans (congrArg Value.bool c8)) ?_
  refine wp_skip ?_
  refine K6 _ _ ?_
  refine gs 9 (Amb S W) fun _ K10=>?_
  refine .fz rfl 1 1 E1_0 ?_
  refine .lp rfl 0 (#[x1,x2]) B4 ?_
  refine .cK rfl Tryz.func229 (fun H=>⟨_,ar1 (H.g 11 1),eTold _ (NumP.mk (VP.any _ (H.was _ [] F_x1)) (VP.any _ (H.was _ [] F_x2))) (by omega)⟩) ?_
  refine .mv rfl 2 ?_
  refine .e rfl (V:=rgV (gcut p.z)) (fun H=>x_ex (H.g 9 3)) ?_
  refine .e rfl (V:=.int .i64 (gerr p.z)) (fun H=>x_ex (H.g 9 3)) ?_
  refine .al rfl zG ?_
  refine .so rfl 6 (fun H=>⟨H.r 4 6,H.g 13 4⟩) ?_
  refine .mv rfl 5 ?_
  refine .dk (fun u=>.agg #[.bool p.inf,x1,x2]::sq u1 0 3 (u 6::u 8::u2 0::u2 1::U::u 3::sq u 0 3 (u 4::u 5::us 3))) K10 bel fun u4 w4 D bel=>?_
  obtain ⟨b11,E4_6,A11,B11⟩:=D.st 7
  have E4_8:=D.q 8
  have N5_11:=D.n1 6 (lt_of B5) E4_6
  replace B5:=D.k B5
  clear D
  refine gs1 5 (Amb S W) 3 B5 fun _ K12=>?_
  refine .e rfl (fun H=>x_ldr (H.z 4 E4_6) (H.b1 B11 N5_11)) ?_
  refine .e rfl (V:=rpnV (RPn.mk false (gcut p.z))) (fun H=>by have e15:=H.g 15 0; clear H; go_simp) ?_
  refine .mz rfl 5 E4_8 ?_
  refine .s1 rfl B5 (fun H=>⟨H.z 2 E1_1,H.g 16 1⟩) ?_
  refine .mv rfl 2 ?_
  refine .d1 (fun u=>.agg #[.bool p.inf,x1,x2]::u1 0::u1 1::u 4::u4 6::u4 8::u2 0::u2 1::U::u4 3::sq u4 0 3 (u4 4::u4 5::sq u 0 3 [])) K12 bel A5 fun u5 w5 D bel=>?_
  have E5_4:=D.q 4
  replace B5:=D.ol 3
  clear D
  refine wp_ret ?_
  refine ret_ok rfl (by exact results_mix rfl (by exact E1_1) B5 Tryz.underlying56 rfl (by kernel_rfl) (by exact E5_4)) (RetV.mk ?_ bel)
  exact congrArg Ending.returned (pcut_num c8)
end Go.Proofs.YtcpjdjnaipbieaaGreat
namespace Go.Proofs.YtcpjdjnaipbieaaGreat
open Go.RowKit Rgn Eng
set_option maxHeartbeats 8000000
set_option maxRecDepth 100000
variable {S:Nat → Prop} {W:World}
theorem ivIs (m:Mb) (p0:mbOk (rmb m) = true) :
  Calls Tryz.prog 25 #[mbV m] W (RetV (.tuple #[.agg #[.bool m.isR.a.a.n,.string m.isR.a.a.s,.bool m.isR.a.b.n,.string m.isR.a.b.s,.bool m.isR.b.re.a.n,.string m.isR.b.re.a.s,.bool m.isR.b.re.b.n,.string m.isR.b.re.b.s,.bool m.isR.b.im.a.n,.string m.isR.b.im.a.s,.bool m.isR.b.im.b.n,.string m.isR.b.im.b.s,.bool m.isR.c.a.n,.string m.isR.c.a.s,.bool m.isR.c.b.n,.string m.isR.c.b.s],.int .i64 m.isE]) W):=by
 have f:=mbfits_ht (mbOk_c p0).1
 have o1:ht (Cx.ofInt (1:Int) (0:Int)).re = 2:=by decide
 have o2:ht (Cx.ofInt (1:Int) (0:Int)).im = 2:=by decide
 have o3:ht (Cx.ofInt (0:Int) (1:Int)).re = 2:=by decide
 have o4:ht (Cx.ofInt (0:Int) (1:Int)).im = 2:=by decide
 have o5:ht (Rat.divInt (1:Int) (1:Int)) = 2:=by decide
 have o6:=ht_zero
 have k1:=hc_conj m.a
 have k2:=hc_sub (Cx.ofInt (1:Int) (0:Int)) m.a.conj
 have k30:=hc_mul m.b (Cx.ofInt (1:Int) (0:Int))
 have k40:=hc_neg (m.b.mul (Cx.ofInt (1:Int) (0:Int)))
 have k31:=hc_mul m.b ((Cx.ofInt (1:Int) (0:Int)).sub m.a.conj)
 have k41:=hc_neg (m.b.mul ((Cx.ofInt (1:Int) (0:Int)).sub m.a.conj))
 have k32:=hc_mul m.b (Cx.ofInt (0:Int) (1:Int))
 have k42:=hc_neg (m.b.mul (Cx.ofInt (0:Int) (1:Int)))
 refine Run.goP (S:=Z0) (Pack.nil.k (mbV m) (mbC m).toList (.s (.agg (ks 0 33)))) Tryz.func25 rfl ?_
 refine Run.cR spMatK (fun β ℓ w H=>eOpenO m p0) ?_
 refine Run.kn (b:=true) rfl ?_
 refine Run.dr ?_
 refine RunD.cR spRat (fun β ℓ w H=>qNewRat 1 1 (by decide) (by decide) (by decide) (by decide) (by decide)) ?_
 refine RunD.en ?_
 refine Run.cR spNum (fun β ℓ w H=>eInt 1 0 (by decide) (by decide) (by decide) (by decide)) ?_
 refine Run.cV [.bool m.c.zero] kb (fun β ℓ w H=>eZero m.c (NumP.mk (H.f 4) (H.f 5))) ?_
 rcases Bool.eq_false_or_eq_true m.c.zero with c1 | c1
 · refine Run.kn c1 ?_
   refine Run.dr ?_
   refine RunD.cR spNum (fun β ℓ w H=>eInt 1 0 (by decide) (by decide) (by decide) (by decide)) ?_
   refine RunD.cR spNum (fun β ℓ w H=>eConj m.a (NumP.mk (H.f 0) (H.f 1)) (by first | omega | (dsimp only at *; omega))) ?_
   refine RunD.cR spNum (fun β ℓ w H=>eSub (Cx.ofInt (1:Int) (0:Int)) m.a.conj (NumP.mk (H.f 11) (H.f 12)) (NumP.mk (H.f 13) (H.f 14)) (by first | omega | (dsimp only at *; omega))) ?_
   refine RunD.en ?_
   refine Run.cV [.bool ((Cx.ofInt (1:Int) (0:Int)).sub m.a.conj).zero] kb (fun β ℓ w H=>eZero ((Cx.ofInt (1:Int) (0:Int)).sub m.a.conj) (NumP.mk (H.f 15) (H.f 16))) ?_
   rcases Bool.eq_false_or_eq_true ((Cx.ofInt (1:Int) (0:Int)).sub m.a.conj).zero with c2 | c2
   · refine Run.kn c2 ?_
     refine Run.cR spNum (fun β ℓ w H=>eInt 0 1 (by decide) (by decide) (by decide) (by decide)) ?_
     refine Run.cR spNum (fun β ℓ w H=>eNMul m.b (Cx.ofInt (0:Int) (1:Int)) (NumP.mk (H.f 2) (H.f 3)) (NumP.mk (H.f 17) (H.f 18)) (by first | omega | (dsimp only at *; omega))) ?_
     refine Run.cR spNum (fun β ℓ w H=>eNeg (m.b.mul (Cx.ofInt (0:Int) (1:Int))) (NumP.mk (H.f 19) (H.f 20)) (by first | omega | (dsimp only at *; omega))) ?_
     refine Run.cR sp2Rat (fun β ℓ w H=>eParts ((m.b.mul (Cx.ofInt (0:Int) (1:Int))).neg) (NumP.mk (H.f 21) (H.f 22))) ?_
     rcases Bool.eq_false_or_eq_true m.t with c3 | c3
     · refine Run.kn c3 ?_
       refine Run.cV [.int .i64 ((m.b.mul (Cx.ofInt (0:Int) (1:Int))).neg).im.num.sign] kb (fun β ℓ w H=>qSign ((m.b.mul (Cx.ofInt (0:Int) (1:Int))).neg).im (H.f 24)) ?_
       refine Run.ic ((m.b.mul (Cx.ofInt (0:Int) (1:Int))).neg).im.num.sign 0 (((m.b.mul (Cx.ofInt (0:Int) (1:Int))).neg).im.num.sign != 0) ?_
       rcases Bool.eq_false_or_eq_true (((m.b.mul (Cx.ofInt (0:Int) (1:Int))).neg).im.num.sign != 0) with c4 | c4
       · refine Run.kn c4 ?_
         exact Run.rV (is_n (ok_i (is_w2 c1 c2) c4))
       refine Run.kn c4 ?_
       refine Run.cR spRat (fun β ℓ w H=>rgPow (Ci.mk (0:Rat) (Cx.ofInt (0:Int) (1:Int)) ((m.b.mul (Cx.ofInt (0:Int) (1:Int))).neg).re) (RingP.mk (H.rz 5) (H.f 17) (H.f 18) (H.f 23)) (by dsimp only at *; omega)) ?_
       refine Run.cV [.int .i64 (Ci.mk (0:Rat) (Cx.ofInt (0:Int) (1:Int)) ((m.b.mul (Cx.ofInt (0:Int) (1:Int))).neg).re).pow.num.sign] kb (fun β ℓ w H=>qSign (Ci.mk (0:Rat) (Cx.ofInt (0:Int) (1:Int)) ((m.b.mul (Cx.ofInt (0:Int) (1:Int))).neg).re).pow (H.f 25)) ?_
       refine Run.ic (Ci.mk (0:Rat) (Cx.ofInt (0:Int) (1:Int)) ((m.b.mul (Cx.ofInt (0:Int) (1:Int))).neg).re).pow.num.sign 0 (decide ((Ci.mk (0:Rat) (Cx.ofInt (0:Int) (1:Int)) ((m.b.mul (Cx.ofInt (0:Int) (1:Int))).neg).re).pow.num.sign ≤ 0)) ?_
       rcases Bool.eq_false_or_eq_true (decide ((Ci.mk (0:Rat) (Cx.ofInt (0:Int) (1:Int)) ((m.b.mul (Cx.ofInt (0:Int) (1:Int))).neg).re).pow.num.sign ≤ 0)) with c5 | c5
       · refine Run.kn c5 ?_
         exact Run.rV (is_n (ok_p (is_w2 c1 c2) c5))
       refine Run.kn c5 ?_
       refine Run.cV ((rciC (cicut (Ci.mk (0:Rat) (Cx.ofInt (0:Int) (1:Int)) ((m.b.mul (Cx.ofInt (0:Int) (1:Int))).neg).re).nrm)).toList ++ [.int .i64 (cierr (Ci.mk (0:Rat) (Cx.ofInt (0:Int) (1:Int)) ((m.b.mul (Cx.ofInt (0:Int) (1:Int))).neg).re).nrm)]) (.tup [.agg (ks 0 16),.o (.k 16)]) (fun β ℓ w H=>rgTold (Ci.mk (0:Rat) (Cx.ofInt (0:Int) (1:Int)) ((m.b.mul (Cx.ofInt (0:Int) (1:Int))).neg).re) (RingP.mk (H.rz 5) (H.f 17) (H.f 18) (H.f 23)) (by dsimp only at *; omega) (pos_flat (pos_of c5))) ?_
       refine Run.cR spRing (fun β ℓ w H=>rgNorm (Ci.mk (0:Rat) (Cx.ofInt (0:Int) (1:Int)) ((m.b.mul (Cx.ofInt (0:Int) (1:Int))).neg).re) (RingP.mk (H.rz 5) (H.f 17) (H.f 18) (H.f 23)) (by dsimp only at *; omega) (pos_flat (pos_of c5))) ?_
       refine Run.cR spMat (fun β ℓ w H=>iOver (Ci.mk (0:Rat) (Cx.ofInt (0:Int) (1:Int)) ((m.b.mul (Cx.ofInt (0:Int) (1:Int))).neg).re).nrm (RingP.mk (H.f 26) (H.f 27) (H.f 28) (H.f 29)) (Nat.le_trans (nrm_le (by dsimp only at *; omega)) (by decide))) ?_
       refine Run.cV ((rmbC (mbcut (Ci.mk (0:Rat) (Cx.ofInt (0:Int) (1:Int)) ((m.b.mul (Cx.ofInt (0:Int) (1:Int))).neg).re).nrm.over.nrm)).toList ++ [.int .i64 (mberr (Ci.mk (0:Rat) (Cx.ofInt (0:Int) (1:Int)) ((m.b.mul (Cx.ofInt (0:Int) (1:Int))).neg).re).nrm.over.nrm)]) (.tup [.agg (ks 0 33),.o (.k 33)]) (fun β ℓ w H=>mtTold (Ci.mk (0:Rat) (Cx.ofInt (0:Int) (1:Int)) ((m.b.mul (Cx.ofInt (0:Int) (1:Int))).neg).re).nrm.over (MatP.mk (H.f 30) (H.f 31) (H.f 32) (H.f 33) (H.f 34) (H.f 35) (H.f 36) (H.f 37)) (over_le (Nat.le_trans (nrm_le (by dsimp only at *; omega)) (by decide))) (over_piv (pos_nrm (pos_of c5)))) ?_
       refine Run.bi [.bool (!decide (mbcut (Ci.mk (0:Rat) (Cx.ofInt (0:Int) (1:Int)) ((m.b.mul (Cx.ofInt (0:Int) (1:Int))).neg).re).nrm.over.nrm = rmb m))] kb (fun w o ρ x y t' ho hx hy=>ex_neq_mb (r:=mbcut (Ci.mk (0:Rat) (Cx.ofInt (0:Int) (1:Int)) ((m.b.mul (Cx.ofInt (0:Int) (1:Int))).neg).re).nrm.over.nrm) (q:=rmb m) x y ho hx hy rfl) ?_
       rcases Bool.eq_false_or_eq_true (!decide (mbcut (Ci.mk (0:Rat) (Cx.ofInt (0:Int) (1:Int)) ((m.b.mul (Cx.ofInt (0:Int) (1:Int))).neg).re).nrm.over.nrm = rmb m)) with c6 | c6
       · refine Run.kn c6 ?_
         exact Run.rV (is_n (ok_b p0 (is_w2 c1 c2) c6))
       refine Run.kn c6 ?_
       exact Run.rV (is_y (is_w2 c1 c2) (ok_y p0 (is_w2 c1 c2) c3 c4 c5 c6))
     · refine Run.kn c3 ?_
       exact Run.rV (is_n (ok_t c3))
   · refine Run.kn c2 ?_
     refine Run.cR spNum (fun β ℓ w H=>eNMul m.b ((Cx.ofInt (1:Int) (0:Int)).sub m.a.conj) (NumP.mk (H.f 2) (H.f 3)) (NumP.mk (H.f 15) (H.f 16)) (by first | omega | (dsimp only at *; omega))) ?_
     refine Run.cR spNum (fun β ℓ w H=>eNeg (m.b.mul ((Cx.ofInt (1:Int) (0:Int)).sub m.a.conj)) (NumP.mk (H.f 17) (H.f 18)) (by first | omega | (dsimp only at *; omega))) ?_
     refine Run.cR sp2Rat (fun β ℓ w H=>eParts ((m.b.mul ((Cx.ofInt (1:Int) (0:Int)).sub m.a.conj)).neg) (NumP.mk (H.f 19) (H.f 20))) ?_
     rcases Bool.eq_false_or_eq_true m.t with c3 | c3
     · refine Run.kn c3 ?_
       refine Run.cV [.int .i64 ((m.b.mul ((Cx.ofInt (1:Int) (0:Int)).sub m.a.conj)).neg).im.num.sign] kb (fun β ℓ w H=>qSign ((m.b.mul ((Cx.ofInt (1:Int) (0:Int)).sub m.a.conj)).neg).im (H.f 22)) ?_
       refine Run.ic ((m.b.mul ((Cx.ofInt (1:Int) (0:Int)).sub m.a.conj)).neg).im.num.sign 0 (((m.b.mul ((Cx.ofInt (1:Int) (0:Int)).sub m.a.conj)).neg).im.num.sign != 0) ?_
       rcases Bool.eq_false_or_eq_true (((m.b.mul ((Cx.ofInt (1:Int) (0:Int)).sub m.a.conj)).neg).im.num.sign != 0) with c4 | c4
       · refine Run.kn c4 ?_
         exact Run.rV (is_n (ok_i (is_w1 c1 c2) c4))
       refine Run.kn c4 ?_
       refine Run.cR spRat (fun β ℓ w H=>rgPow (Ci.mk (0:Rat) ((Cx.ofInt (1:Int) (0:Int)).sub m.a.conj) ((m.b.mul ((Cx.ofInt (1:Int) (0:Int)).sub m.a.conj)).neg).re) (RingP.mk (H.rz 5) (H.f 15) (H.f 16) (H.f 21)) (by dsimp only at *; omega)) ?_
       refine Run.cV [.int .i64 (Ci.mk (0:Rat) ((Cx.ofInt (1:Int) (0:Int)).sub m.a.conj) ((m.b.mul ((Cx.ofInt (1:Int) (0:Int)).sub m.a.conj)).neg).re).pow.num.sign] kb (fun β ℓ w H=>qSign (Ci.mk (0:Rat) ((Cx.ofInt (1:Int) (0:Int)).sub m.a.conj) ((m.b.mul ((Cx.ofInt (1:Int) (0:Int)).sub m.a.conj)).neg).re).pow (H.f 23)) ?_
       refine Run.ic (Ci.mk (0:Rat) ((Cx.ofInt (1:Int) (0:Int)).sub m.a.conj) ((m.b.mul ((Cx.ofInt (1:Int) (0:Int)).sub m.a.conj)).neg).re).pow.num.sign 0 (decide ((Ci.mk (0:Rat) ((Cx.ofInt (1:Int) (0:Int)).sub m.a.conj) ((m.b.mul ((Cx.ofInt (1:Int) (0:Int)).sub m.a.conj)).neg).re).pow.num.sign ≤ 0)) ?_
       rcases Bool.eq_false_or_eq_true (decide ((Ci.mk (0:Rat) ((Cx.ofInt (1:Int) (0:Int)).sub m.a.conj) ((m.b.mul ((Cx.ofInt (1:Int) (0:Int)).sub m.a.conj)).neg).re).pow.num.sign ≤ 0)) with c5 | c5
       · refine Run.kn c5 ?_
         exact Run.rV (is_n (ok_p (is_w1 c1 c2) c5))
       refine Run.kn c5 ?_
       refine Run.cV ((rciC (cicut (Ci.mk (0:Rat) ((Cx.ofInt (1:Int) (0:Int)).sub m.a.conj) ((m.b.mul ((Cx.ofInt (1:Int) (0:Int)).sub m.a.conj)).neg).re).nrm)).toList ++ [.int .i64 (cierr (Ci.mk (0:Rat) ((Cx.ofInt (1:Int) (0:Int)).sub m.a.conj) ((m.b.mul ((Cx.ofInt (1:Int) (0:Int)).sub m.a.conj)).neg).re).nrm)]) (.tup [.agg (ks 0 16),.o (.k 16)]) (fun β ℓ w H=>rgTold (Ci.mk (0:Rat) ((Cx.ofInt (1:Int) (0:Int)).sub m.a.conj) ((m.b.mul ((Cx.ofInt (1:Int) (0:Int)).sub m.a.conj)).neg).re) (RingP.mk (H.rz 5) (H.f 15) (H.f 16) (H.f 21)) (by dsimp only at *; omega) (pos_flat (pos_of c5))) ?_
       refine Run.cR spRing (fun β ℓ w H=>rgNorm (Ci.mk (0:Rat) ((Cx.ofInt (1:Int) (0:Int)).sub m.a.conj) ((m.b.mul ((Cx.ofInt (1:Int) (0:Int)).sub m.a.conj)).neg).re) (RingP.mk (H.rz 5) (H.f 15) (H.f 16) (H.f 21)) (by dsimp only at *; omega) (pos_flat (pos_of c5))) ?_
       refine Run.cR spMat (fun β ℓ w H=>iOver (Ci.mk (0:Rat) ((Cx.ofInt (1:Int) (0:Int)).sub m.a.conj) ((m.b.mul ((Cx.ofInt (1:Int) (0:Int)).sub m.a.conj)).neg).re).nrm (RingP.mk (H.f 24) (H.f 25) (H.f 26) (H.f 27)) (Nat.le_trans (nrm_le (by dsimp only at *; omega)) (by decide))) ?_
       refine Run.cV ((rmbC (mbcut (Ci.mk (0:Rat) ((Cx.ofInt (1:Int) (0:Int)).sub m.a.conj) ((m.b.mul ((Cx.ofInt (1:Int) (0:Int)).sub m.a.conj)).neg).re).nrm.over.nrm)).toList ++ [.int .i64 (mberr (Ci.mk (0:Rat) ((Cx.ofInt (1:Int) (0:Int)).sub m.a.conj) ((m.b.mul ((Cx.ofInt (1:Int) (0:Int)).sub m.a.conj)).neg).re).nrm.over.nrm)]) (.tup [.agg (ks 0 33),.o (.k 33)]) (fun β ℓ w H=>mtTold (Ci.mk (0:Rat) ((Cx.ofInt (1:Int) (0:Int)).sub m.a.conj) ((m.b.mul ((Cx.ofInt (1:Int) (0:Int)).sub m.a.conj)).neg).re).nrm.over (MatP.mk (H.f 28) (H.f 29) (H.f 30) (H.f 31) (H.f 32) (H.f 33) (H.f 34) (H.f 35)) (over_le (Nat.le_trans (nrm_le (by dsimp only at *; omega)) (by decide))) (over_piv (pos_nrm (pos_of c5)))) ?_
       refine Run.bi [.bool (!decide (mbcut (Ci.mk (0:Rat) ((Cx.ofInt (1:Int) (0:Int)).sub m.a.conj) ((m.b.mul ((Cx.ofInt (1:Int) (0:Int)).sub m.a.conj)).neg).re).nrm.over.nrm = rmb m))] kb (fun w o ρ x y t' ho hx hy=>ex_neq_mb (r:=mbcut (Ci.mk (0:Rat) ((Cx.ofInt (1:Int) (0:Int)).sub m.a.conj) ((m.b.mul ((Cx.ofInt (1:Int) (0:Int)).sub m.a.conj)).neg).re).nrm.over.nrm) (q:=rmb m) x y ho hx hy rfl) ?_
       rcases Bool.eq_false_or_eq_true (!decide (mbcut (Ci.mk (0:Rat) ((Cx.ofInt (1:Int) (0:Int)).sub m.a.conj) ((m.b.mul ((Cx.ofInt (1:Int) (0:Int)).sub m.a.conj)).neg).re).nrm.over.nrm = rmb m)) with c6 | c6
       · refine Run.kn c6 ?_
         exact Run.rV (is_n (ok_b p0 (is_w1 c1 c2) c6))
       refine Run.kn c6 ?_
       exact Run.rV (is_y (is_w1 c1 c2) (ok_y p0 (is_w1 c1 c2) c3 c4 c5 c6))
     · refine Run.kn c3 ?_
       exact Run.rV (is_n (ok_t c3))
 · refine Run.kn c1 ?_
   refine Run.cR spNum (fun β ℓ w H=>eNMul m.b (Cx.ofInt (1:Int) (0:Int)) (NumP.mk (H.f 2) (H.f 3)) (NumP.mk (H.f 9) (H.f 10)) (by first | omega | (dsimp only at *; omega))) ?_
   refine Run.cR spNum (fun β ℓ w H=>eNeg (m.b.mul (Cx.ofInt (1:Int) (0:Int))) (NumP.mk (H.f 11) (H.f 12)) (by first | omega | (dsimp only at *; omega))) ?_
   refine Run.cR sp2Rat (fun β ℓ w H=>eParts ((m.b.mul (Cx.ofInt (1:Int) (0:Int))).neg) (NumP.mk (H.f 13) (H.f 14))) ?_
   rcases Bool.eq_false_or_eq_true m.t with c3 | c3
   · refine Run.kn c3 ?_
     refine Run.cV [.int .i64 ((m.b.mul (Cx.ofInt (1:Int) (0:Int))).neg).im.num.sign] kb (fun β ℓ w H=>qSign ((m.b.mul (Cx.ofInt (1:Int) (0:Int))).neg).im (H.f 16)) ?_
     refine Run.ic ((m.b.mul (Cx.ofInt (1:Int) (0:Int))).neg).im.num.sign 0 (((m.b.mul (Cx.ofInt (1:Int) (0:Int))).neg).im.num.sign != 0) ?_
     rcases Bool.eq_false_or_eq_true (((m.b.mul (Cx.ofInt (1:Int) (0:Int))).neg).im.num.sign != 0) with c4 | c4
     · refine Run.kn c4 ?_
       exact Run.rV (is_n (ok_i (is_w0 c1) c4))
     refine Run.kn c4 ?_
     refine Run.cR spRat (fun β ℓ w H=>rgPow (Ci.mk (Rat.divInt (1:Int) (1:Int)) m.d ((m.b.mul (Cx.ofInt (1:Int) (0:Int))).neg).re) (RingP.mk (H.f 8) (H.f 6) (H.f 7) (H.f 15)) (by dsimp only at *; omega)) ?_
     refine Run.cV [.int .i64 (Ci.mk (Rat.divInt (1:Int) (1:Int)) m.d ((m.b.mul (Cx.ofInt (1:Int) (0:Int))).neg).re).pow.num.sign] kb (fun β ℓ w H=>qSign (Ci.mk (Rat.divInt (1:Int) (1:Int)) m.d ((m.b.mul (Cx.ofInt (1:Int) (0:Int))).neg).re).pow (H.f 17)) ?_
     refine Run.ic (Ci.mk (Rat.divInt (1:Int) (1:Int)) m.d ((m.b.mul (Cx.ofInt (1:Int) (0:Int))).neg).re).pow.num.sign 0 (decide ((Ci.mk (Rat.divInt (1:Int) (1:Int)) m.d ((m.b.mul (Cx.ofInt (1:Int) (0:Int))).neg).re).pow.num.sign ≤ 0)) ?_
     rcases Bool.eq_false_or_eq_true (decide ((Ci.mk (Rat.divInt (1:Int) (1:Int)) m.d ((m.b.mul (Cx.ofInt (1:Int) (0:Int))).neg).re).pow.num.sign ≤ 0)) with c5 | c5
     · refine Run.kn c5 ?_
       exact Run.rV (is_n (ok_p (is_w0 c1) c5))
     refine Run.kn c5 ?_
     refine Run.cV ((rciC (cicut (Ci.mk (Rat.divInt (1:Int) (1:Int)) m.d ((m.b.mul (Cx.ofInt (1:Int) (0:Int))).neg).re).nrm)).toList ++ [.int .i64 (cierr (Ci.mk (Rat.divInt (1:Int) (1:Int)) m.d ((m.b.mul (Cx.ofInt (1:Int) (0:Int))).neg).re).nrm)]) (.tup [.agg (ks 0 16),.o (.k 16)]) (fun β ℓ w H=>rgTold (Ci.mk (Rat.divInt (1:Int) (1:Int)) m.d ((m.b.mul (Cx.ofInt (1:Int) (0:Int))).neg).re) (RingP.mk (H.f 8) (H.f 6) (H.f 7) (H.f 15)) (by dsimp only at *; omega) (pos_flat (pos_of c5))) ?_
     refine Run.cR spRing (fun β ℓ w H=>rgNorm (Ci.mk (Rat.divInt (1:Int) (1:Int)) m.d ((m.b.mul (Cx.ofInt (1:Int) (0:Int))).neg).re) (RingP.mk (H.f 8) (H.f 6) (H.f 7) (H.f 15)) (by dsimp only at *; omega) (pos_flat (pos_of c5))) ?_
     refine Run.cR spMat (fun β ℓ w H=>iOver (Ci.mk (Rat.divInt (1:Int) (1:Int)) m.d ((m.b.mul (Cx.ofInt (1:Int) (0:Int))).neg).re).nrm (RingP.mk (H.f 18) (H.f 19) (H.f 20) (H.f 21)) (Nat.le_trans (nrm_le (by dsimp only at *; omega)) (by decide))) ?_
     refine Run.cV ((rmbC (mbcut (Ci.mk (Rat.divInt (1:Int) (1:Int)) m.d ((m.b.mul (Cx.ofInt (1:Int) (0:Int))).neg).re).nrm.over.nrm)).toList ++ [.int .i64 (mberr (Ci.mk (Rat.divInt (1:Int) (1:Int)) m.d ((m.b.mul (Cx.ofInt (1:Int) (0:Int))).neg).re).nrm.over.nrm)]) (.tup [.agg (ks 0 33),.o (.k 33)]) (fun β ℓ w H=>mtTold (Ci.mk (Rat.divInt (1:Int) (1:Int)) m.d ((m.b.mul (Cx.ofInt (1:Int) (0:Int))).neg).re).nrm.over (MatP.mk (H.f 22) (H.f 23) (H.f 24) (H.f 25) (H.f 26) (H.f 27) (H.f 28) (H.f 29)) (over_le (Nat.le_trans (nrm_le (by dsimp only at *; omega)) (by decide))) (over_piv (pos_nrm (pos_of c5)))) ?_
     refine Run.bi [.bool (!decide (mbcut (Ci.mk (Rat.divInt (1:Int) (1:Int)) m.d ((m.b.mul (Cx.ofInt (1:Int) (0:Int))).neg).re).nrm.over.nrm = rmb m))] kb (fun w o ρ x y t' ho hx hy=>ex_neq_mb (r:=mbcut (Ci.mk (Rat.divInt (1:Int) (1:Int)) m.d ((m.b.mul (Cx.ofInt (1:Int) (0:Int))).neg).re).nrm.over.nrm) (q:=rmb m) x y ho hx hy rfl) ?_
     rcases Bool.eq_false_or_eq_true (!decide (mbcut (Ci.mk (Rat.divInt (1:Int) (1:Int)) m.d ((m.b.mul (Cx.ofInt (1:Int) (0:Int))).neg).re).nrm.over.nrm = rmb m)) with c6 | c6
     · refine Run.kn c6 ?_
       exact Run.rV (is_n (ok_b p0 (is_w0 c1) c6))
     refine Run.kn c6 ?_
     exact Run.rV (is_y (is_w0 c1) (ok_y p0 (is_w0 c1) c3 c4 c5 c6))
   · refine Run.kn c3 ?_
     exact Run.rV (is_n (ok_t c3))
theorem ivIsN (r:RMb) (p0:mbOk r = false) :
  Calls Tryz.prog 25 #[rmbV r] W (RetV (.tuple #[.agg #[.bool rzCi.a.a.n,.string rzCi.a.a.s,.bool rzCi.a.b.n,.string rzCi.a.b.s,.bool rzCi.b.re.a.n,.string rzCi.b.re.a.s,.bool rzCi.b.re.b.n,.string rzCi.b.re.b.s,.bool rzCi.b.im.a.n,.string rzCi.b.im.a.s,.bool rzCi.b.im.b.n,.string rzCi.b.im.b.s,.bool rzCi.c.a.n,.string rzCi.c.a.s,.bool rzCi.c.b.n,.string rzCi.c.b.s],.int .i64 2]) W):=by
 refine Run.goP (S:=Z0) (Pack.nil.k (rmbV r) (rmbC r).toList (.s (.agg (ks 0 33)))) Tryz.func25 rfl ?_
 refine Run.cR spMatJK (fun β ℓ w H=>eOpenN r p0) ?_
 refine Run.kn (b:=false) rfl ?_
 exact Run.rV rfl
end Go.Proofs.YtcpjdjnaipbieaaGreat
namespace Go.Proofs.YtcpjdjnaipbieaaGreat
open Go.RowKit Rgn
theorem own_low {n₀ sz k:Nat} {T:TypeId} {w w' : World} {v:Value} {cs:List Value} (h:w.ownsRow n₀ T sz v k cs) (g:RowKit.Below w.heap.size w w'):w'.ownsRow n₀ T sz v k cs:=by
 refine ⟨h.1,?_⟩
 rcases h.2 with h1 | ⟨b,cap,cur,h1,h2,h3,h4⟩
 ·exact .inl h1
 ·exact .inr ⟨b,cap,cur,h1,h2,(g.block b (lt_of h3)).trans h3,h4⟩
theorem own_open {n₀ sz k:Nat} {T:TypeId} {w:World} {v:Value} {cs:List Value} (h:w.ownsRow n₀ T sz v k cs) (hk:k ≠ 0) :
  ∃ b cap cur,v = .slice (some ⟨b,0,none⟩) k cap ∧ n₀ ≤ b ∧ w.heap[b]? = some (.cells cur T (0,0)) ∧ cur.toList.take cs.length = cs:=by
 rcases h.2 with ⟨_,h1⟩ | ⟨b,cap,cur,h1,h2,h3,h4,h5,h6,h7⟩
 ·exact absurd h1 hk
 ·exact ⟨b,cap,cur,h1,h2,h3,by rw [h.1]; exact h7⟩
def AllG:List Ci → List Value → (Nat → Prop) → World → Prop
 | [],[],_,_=>True
 | c :: l,v0 :: v1 :: v2 :: v3 :: vs,S,w=>(RingP c).p S (.agg #[v0,v1,v2,v3]) w ∧ AllG l vs S w
 | _,_,_,_=>False
def RetRow (T:TypeId) (n:Nat) (r:Value) (l:List Ci) (S:Nat → Prop) (W:World) (e:Ending) (w' : World):Prop :=
 ∃ b cap cur vs,e = .returned (.tuple #[.slice (some ⟨b,0,none⟩) n cap,r]) ∧ W.heap.size ≤ b ∧ w'.heap[b]? = some (.cells cur T (0,0)) ∧ cur.toList.take vs.length = vs ∧ AllG l vs (fun k=>S k ∨ W.heap.size ≤ k) w' ∧ RowKit.Below W.heap.size W w'
theorem AllG.cons {c:Ci} {l:List Ci} {vs:List Value} {S:Nat → Prop} {w:World} (h:AllG (c :: l) vs S w):∃ (b0:Nat) (v1 v2:Value) (b3:Nat) (vs' : List Value),vs = pt b0 :: v1 :: v2 :: pt b3 :: vs' ∧ S b0 ∧ S b3 ∧ (RatP c.a).p (· = b0) (pt b0) w ∧ (RatN c.b.re).p S v1 w ∧ (RatN c.b.im).p S v2 w ∧ (RatP c.c).p (· = b3) (pt b3) w ∧ AllG l vs' S w:=by
 match vs,h with
 | v0 :: v1 :: v2 :: v3 :: vs,⟨h1,h2⟩ =>
  obtain ⟨b0,y1,y2,b3,e,k1,k2,m0,m1,m2,m3⟩:=RingP.elim h1
  simp only [Value.agg.injEq,Array.mk.injEq,List.cons.injEq,and_true] at e
  obtain ⟨rfl,rfl,rfl,rfl⟩:=e
  exact ⟨b0,v1,v2,b3,vs,rfl,k1,k2,m0,m1,m2,m3,h2⟩
theorem AllG.nil {vs:List Value} {S:Nat → Prop} {w:World} (h:AllG [] vs S w):vs = []:=by
 match vs,h with
 | [],_=>rfl
section
variable {P:Program} {ops:Array Oper} {Q:Exit → Act → World → Prop} {o:Oper} {rest:List Oper} {a:Act} {w:World}
theorem wpT_apR {T TS:TypeId} {n₀ k b:Nat} {s x:Operand} {v v0 v1 v2 v3:Value} {cs:List Value} (bt:Nat) (hg:o.guard = none) (ho:o.op = .call { callee:=.builtin .append,args:=#[s,x],argTypes:=#[TS,TS] }) (hs:a.eval s = v) (hx:a.eval x = .slice (some ⟨b,0,none⟩) 1 1)
  (O:w.ownsRow n₀ T 4 v k cs) (hB:w.heap[b]? = some (.cells #[v0,v1,v2,v3] T (0,0))) (h0:v0.oneCell' = true) (h1:v1.oneCell' = true) (h2:v2.oneCell' = true) (h3:v3.oneCell' = true) (hn:n₀ ≤ w.heap.size) (hk:k ≤ 100000)
  (hu:sliceE P TS = some T) (hi:(P.info? T).map (fun i=>(i.zero.map (·.cells.size),i.size,i.bytes)) = some (some 4,4,bt)) (hb:bt ≤ 100000) (hL:Rgn.Loc T = true)
  (h:∀ v' w', w'.ownsRow n₀ T 4 v' (k + 1) (cs ++ [v0,v1,v2,v3]) → RowKit.Below n₀ w w' → (∀ S,GrowS S w w') → wpList P ops Q rest (a.put o.dst v') w'):wpList P ops Q (o :: rest) a w:=by
 cases hie:P.info? T with
 | none=>rw [hie] at hi; cases hi
 | some i =>
  rw [hie] at hi
  simp only [Option.map_some,Option.some.injEq,Prod.mk.injEq] at hi
  obtain ⟨hz,hsz,hby⟩:=hi
  cases hzz:i.zero with
  | none=>rw [hzz] at hz; cases hz
  | some z =>
   have hzs:z.cells.size = 4:=by rw [hzz] at hz; exact Option.some.inj hz
   have hnews:∀ j u,[v0,v1,v2,v3][j]? = some u → w.cell? ((⟨b,0,none⟩:Addr).add j) = some u:=by
    intro j u hj
    rw [Addr.add_lit]
    simpa [World.cell?,hB] using hj
   have hone:∀ u ∈ [v0,v1,v2,v3],u.oneCell' = true:=by
    intro u hu
    simp only [List.mem_cons,List.not_mem_nil,or_false] at hu
    rcases hu with rfl | rfl | rfl | rfl <;> assumption
   obtain ⟨v', w', hrun,hown,r2,_⟩:=run_append_own (P:=P) w n₀ TS o.type T i z 4 bt (sliceE_ex hu) hie hzz hsz hby hzs (by decide) v k cs O ⟨b,0,none⟩ 1 1 [v0,v1,v2,v3] rfl hnews hone (by simp only [maxLen]; omega)
    (Nat.le_trans (Nat.mul_le_mul (show k + 1 ≤ 100001 by omega) hb) (by decide)) hn
   refine wpList_plain hg fun K hK=>?_
   simp only [Oper.wp,ex_append ho hs hx hrun,Oper.upon]
   refine hK _ _ (h v' w' hown ⟨r2.os,r2.tape,r2.output,r2.size,fun q hq=>r2.block q (Nat.lt_of_lt_of_le hq hn) (fun e=>?_)⟩ (fun S=>⟨r2.os,r2.tape,r2.output,r2.size,fun q hq=>?_⟩))
   ·have:=O.lt q e.symm; omega
   ·by_cases e:some q = v.ownBlock
    ·rcases O.2 with ⟨h4,_⟩ | ⟨b', cap,cur,h4,h5,h6,_⟩
     ·rw [h4] at e; simp [Value.ownBlock] at e
     ·rw [h4] at e
      have e:q = b' := by simpa [Value.ownBlock] using e
      subst e
      exact .inr (.inl ⟨_,_,_,h6,hL⟩)
    ·exact .inl (r2.block q hq e)
theorem wpT_row {f:FuncId} {args:Array Value} {T:TypeId} {n:Nat} {r:Value} {l:List Ci} {S:Nat → Prop} (hg:o.guard = none) (hr:(execOp a.eval o).run P w = .ok (.enter f args) w) (hc:Calls P f args w (RetRow T n r l S w))
  (h:∀ b cap cur vs w', w.heap.size ≤ b → w'.heap[b]? = some (.cells cur T (0,0)) → cur.toList.take vs.length = vs → AllG l vs (fun k=>S k ∨ w.heap.size ≤ k) w' → RowKit.Below w.heap.size w w' → wpList P ops Q rest (a.put o.dst (.tuple #[.slice (some ⟨b,0,none⟩) n cap,r])) w'):wpList P ops Q (o :: rest) a w:=by
 refine wpList_plain hg fun K hK=>?_
 simp only [Oper.wp,hr,Oper.upon]
 refine hc.mono fun e w' ⟨b,cap,cur,vs,he,h1,h2,h3,h4,h5⟩=>?_
 subst he
 exact hK _ _ (h b cap cur vs w' h1 h2 h3 h4 h5)
end
theorem x_ldq {P:Program} {ρ:Operand → Value} {o:Oper} {w:World} {x:Operand} {ty t:TypeId} {g off:Nat} {cur:Array Value} {vs us:List Value} {fr:Nat × Nat} (hx:ρ x = .pointer (some ⟨g,off,none⟩)) (hB:w.heap[g]? = some (.cells cur t fr)) (hQ:cur.toList.take vs.length = vs)
  (ho:o.op = .load ty x:=by rfl) (hd:aggB P ty = true:=by kernel_rfl) (hi:(P.info? ty).map (·.size) = some us.length:=by kernel_rfl) (hv:(vs.drop off).take us.length = us:=by rfl) (hn:(off + us.length).ble vs.length = true:=by rfl):(execOp ρ o).run P w = .ok (.value (.agg us.toArray)) w:=by
 obtain ⟨d,h1,h2⟩:=aggB_ex hd
 have hn:=Nat.le_of_ble_eq_true hn
 have hl:vs.length ≤ cur.size:=by
  have:=congrArg List.length hQ
  rw [List.length_take] at this
  simp at this; omega
 refine ex_load_part ty _ ho hx hB h1 (by cases d <;> first | rfl | cases h2) us.length hi (by omega) ?_
 apply Array.ext_getElem?
 intro k
 rw [Array.getElem?_extract]
 by_cases hk:k < us.length
 ·rw [if_pos (by omega)]
  have e1:us[k]? = vs[off + k]?:=by
   rw [← hv,List.getElem?_take_of_lt hk,List.getElem?_drop]
  have e2:vs[off + k]? = cur.toList[off + k]?:=by
   have h3:(cur.toList.take vs.length)[off + k]? = cur.toList[off + k]?:=List.getElem?_take_of_lt (by omega)
   rw [hQ] at h3
   exact h3
  simp [e1,e2]
 ·rw [if_neg (by omega)]
  simp; omega
end Go.Proofs.YtcpjdjnaipbieaaGreat
namespace Go.Proofs.YtcpjdjnaipbieaaGreat
open Go.RowKit Rgn
set_option maxHeartbeats 4000000
set_option maxRecDepth 100000
variable {S:Nat → Prop} {W:World}
theorem ivWhY {b1:Nat} (x:Ci) (y:Ci) (B1:W.heap[b1]? = some (.cells #[.bool (decide (x.a.num < 0)),.string (bS x.a.num.natAbs),.bool (decide ((x.a.den:Int) < 0)),.string (bS (x.a.den:Int).natAbs),.bool (decide (x.b.re.num < 0)),.string (bS x.b.re.num.natAbs),.bool (decide ((x.b.re.den:Int) < 0)),.string (bS (x.b.re.den:Int).natAbs),.bool (decide (x.b.im.num < 0)),.string (bS x.b.im.num.natAbs),.bool (decide ((x.b.im.den:Int) < 0)),.string (bS (x.b.im.den:Int).natAbs),.bool (decide (x.c.num < 0)),.string (bS x.c.num.natAbs),.bool (decide ((x.c.den:Int) < 0)),.string (bS (x.c.den:Int).natAbs),.bool (decide (y.a.num < 0)),.string (bS y.a.num.natAbs),.bool (decide ((y.a.den:Int) < 0)),.string (bS (y.a.den:Int).natAbs),.bool (decide (y.b.re.num < 0)),.string (bS y.b.re.num.natAbs),.bool (decide ((y.b.re.den:Int) < 0)),.string (bS (y.b.re.den:Int).natAbs),.bool (decide (y.b.im.num < 0)),.string (bS y.b.im.num.natAbs),.bool (decide ((y.b.im.den:Int) < 0)),.string (bS (y.b.im.den:Int).natAbs),.bool (decide (y.c.num < 0)),.string (bS y.c.num.natAbs),.bool (decide ((y.c.den:Int) < 0)),.string (bS (y.c.den:Int).natAbs)] 47 (0,0))) (p0:ciOk (rci x) = true) (p1:ciOk (rci y) = true) :
  Calls Tryz.prog 160 #[.slice (some ⟨b1,0,none⟩) 2 2] W (RetRow 203 2 (.int .i64 0) [x,y] S W):=by
 have X1:=lt_of B1
 have bel:=b0 W
 go_enter Tryz.func160,Tryz.ntmps160
 refine gs 2 (Amb S W) fun _ K2=>?_
 refine .mc rfl ?_
 refine .mc rfl ?_
 refine .dk (fun u=>.slice (some ⟨b1,0,none⟩) 2 2::U::u 0::u 1::us 27) K2 bel fun u1 w1 D bel=>?_
 have E1_0:=D.q 0
 have E1_1:=D.q 1
 replace B1:=D.k B1
 clear D
 refine gs 1 (Amb S W) fun _ K3=>?_
 refine .mc rfl ?_
 refine .dk (fun u=>.slice (some ⟨b1,0,none⟩) 2 2::U::u1 0::u1 1::u 0::us 26) K3 bel fun u2 w2 D bel=>?_
 have E2_0:=D.q 0
 replace B1:=D.k B1
 clear D
 refine wp_seq_k fun _ K4=>?_
 refine gs 3 (Amb S W) fun _ K5=>?_
 refine .mz rfl 0 (V:=.slice (some ⟨b1,0,none⟩) 2 2) rfl ?_
 refine .e rfl (V:=.int .i64 2) (fun H=>x_lens (H.g 9 0)) ?_
 refine .mc rfl ?_
 refine .dk (fun u=>.slice (some ⟨b1,0,none⟩) 2 2::U::u1 0::u1 1::u2 0::U::U::U::U::sq u 0 3 (us 19)) K5 bel fun u3 w3 D bel=>?_
 have E3_0:=D.q 0
 have E3_1:=D.q 1
 have E3_2:=D.q 2
 replace B1:=D.k B1
 clear D
 refine wp_block ?_
 refine wp_loop_rounds 3 ?_
 refine rounds_k fun K6 hK6=>?_
 refine gs 1 (Amb S W) fun _ K7=>?_
 refine .e rfl (V:=.bool true) (fun H=>x_cmp (H.z 11 E3_2) (H.z 10 E3_1)) ?_
 refine .dk (fun u=>.slice (some ⟨b1,0,none⟩) 2 2::U::u1 0::u1 1::u2 0::U::U::U::U::sq u3 0 3 (u 0::us 18)) K7 bel fun u4 w4 D bel=>?_
 have E4_0:=D.q 0
 replace B1:=D.k B1
 clear D
 refine wp_seq_k fun _ K8=>?_
 refine wp_cond_true (by exact E4_0) ?_
 refine wp_skip ?_
 refine K8 _ _ ?_
 refine wp_seq_k fun _ K9=>?_
 refine wp_block ?_
 refine gs 4 (Amb S W) fun _ K10=>?_
 refine .e rfl (V:=pt b1) (fun H=>x_ixs 16 (H.z 9 E3_0) (H.z 11 E3_2)) ?_
 refine .lp rfl 0 (ciC x) B1 ?_
 refine .al rfl zCi ?_
 refine .so rfl 2 (fun H=>⟨H.r 6 2,H.g 14 1⟩) ?_
 refine .dk (fun u=>.slice (some ⟨b1,0,none⟩) 2 2::U::u1 0::u1 1::u2 0::U::u 2::U::U::sq u3 0 3 (u4 0::u 0::u 1::us 16)) K10 bel fun u5 w5 D bel=>?_
 obtain ⟨b11,E5_2,A11,B11⟩:=D.st 3
 have E5_0:=D.q 0
 have E5_1:=D.q 1
 replace B1:=D.k B1
 clear D
 refine gs 8 (Amb S W) fun _ K12=>?_
 refine .lr rfl 6 E5_2 B11 ?_
 refine .cR rfl [] Tryz.func155 (fun H=>⟨_,ar1 (H.g 16 0),eWheelO _ (by first | omega | exact p0 | exact p1)⟩) ?_
 refine .mn rfl 1 [1] ?_
 refine Go2.fn (i:=3) rfl (G0 rfl) (.val 3 [1,2] (RingP x)) (fun u μ ρ H=>by have e15:=H.r 15 2; have h0:=(H.a 2 rfl); obtain ⟨x0,x1,h1,h2⟩:=h0; rw [h1] at e15; exact ⟨x0,by clear H; go_simp,SP.tupKeep (by decide) (by decide) h2.1⟩) ?_
 refine .e rfl (V:=.bool true) (fun H=>by have e15:=H.r 15 2; have h0:=(H.a 2 rfl); obtain ⟨x0,x1,h1,h2,h3⟩:=h0; rw [h1] at e15; have h3:x1 = .bool true:=h3; subst h3; clear H; go_simp) ?_
 refine .al rfl (#[.pointer none,.pointer none,.pointer none,.pointer none]) ?_
 refine Go2.storeOwn (i:=6) (m:=5) rfl rfl (.head _) (SP.cells 5 [3] (fun u=>#[((u 3).v.cells.getD 0 undef),((u 3).v.cells.getD 1 undef),((u 3).v.cells.getD 2 undef),((u 3).v.cells.getD 3 undef)]) 203 (by intro u u' h; simp [h 3 (by simp)])) (fun u μ ρ b H h0 hB hb=>?_) ?_
 · have e7:=H.r 7 5; have e18:=H.r 18 3
   rw [h0] at e7
   obtain ⟨x1,x2,x3,x4,h1,h2,h3,h4,h5⟩:=(H.a 3 rfl)
   have o1:=VP1.rat h2
   have o2:=VP1.ratn h3
   have o3:=VP1.ratn h4
   have o4:=VP1.rat h5
   rw [h1] at e18
   refine ⟨μ.setRow b #[x1,x2,x3,x4],ex_store_row 203 _ _ rfl e7 e18 hb (by kernel_rfl) rfl (by simp [o1,o2,o3,o4] <;> rfl),fun g=>⟨b,?_,hB,?_⟩,setRow_only _ _ _⟩
   · rw [upd_other _ _ (by decide)]; exact h0
   · rw [setRow_at hb]; try simp [upd,h1,Value.cells]
 refine .mv rfl 4 ?_
 refine .dk (fun u=>.slice (some ⟨b1,0,none⟩) 2 2::U::u1 0::u1 1::u2 0::U::u5 2::u 5::u 7::sq u3 0 3 (u4 0::u5 0::u5 1::u 2::u 0::u 1::u 3::u 4::us 11)) K12 bel fun u6 w6 D bel=>?_
 obtain ⟨x13,x14,E6_1,F_x13,F_x14⟩:=(D.rr 1)
 obtain ⟨b15,x16,x17,b18,rfl,L15,L18,F15,F_x16,F_x17,F18⟩:=RingP.elim F_x13
 obtain rfl:x14 = _:=F_x14
 obtain ⟨x19,x20,E6_2,F_x19,F_x20⟩:=(D.rr 2)
 obtain ⟨b21,x22,x23,b24,rfl,L21,L24,F21,F_x22,F_x23,F24⟩:=RingP.elim F_x19
 obtain rfl:x20 = _:=F_x20
 obtain ⟨b25,x26,x27,b28,E6_3,L25,L28,F25,F_x26,F_x27,F28⟩:=RingP.elim (D.rr 3)
 obtain ⟨b29,E6_5,A29,B29⟩:=(D.a 6 rfl)
 replace A29:=le2 D.le A29
 have E6_0:=D.q 0
 have E6_4:=D.q 4
 have E6_7:=D.q 7
 replace B1:=D.k B1
 replace B11:=D.k B11
 simp only [Value.cells,E6_1,E6_2,E6_3,E6_5] at B29
 replace B29:w6.heap[b29]? = some (.cells #[pt b25,x26,x27,pt b28] 203 (0,0)):=B29
 clear D
 refine wp_seq_k fun _ K30=>?_
 refine gs 2 (Amb S W) fun _ K31=>?_
 refine .mz rfl 8 E6_7 ?_
 refine .e rfl (V:=.bool false) (fun H=>x_not (H.g 20 0)) ?_
 refine .dk (fun u=>.slice (some ⟨b1,0,none⟩) 2 2::U::u1 0::u1 1::u2 0::U::u5 2::u6 5::u6 7::sq u3 0 3 (u4 0::u5 0::u5 1::u6 2::u6 0::u6 1::u6 3::u6 4::u 0::u 1::us 9)) K31 bel fun u7 w7 D bel=>?_
 have E7_0:=D.q 0
 have E7_1:=D.q 1
 replace B1:=D.k B1
 replace B11:=D.k B11
 replace B29:=D.k B29
 replace F15:=D.o L15 F15
 replace F18:=D.o L18 F18
 replace F21:=D.o L21 F21
 replace F24:=D.o L24 F24
 replace F25:=D.o L25 F25
 replace F28:=D.o L28 F28
 replace F_x16:=D.gr (RatN x.b.re) F_x16
 replace F_x17:=D.gr (RatN x.b.im) F_x17
 replace F_x22:=D.gr (RatN x.b.re) F_x22
 replace F_x23:=D.gr (RatN x.b.im) F_x23
 replace F_x26:=D.gr (RatN x.b.re) F_x26
 replace F_x27:=D.gr (RatN x.b.im) F_x27
 clear D
 refine wp_cond_false (by exact E7_1) ?_
 refine wp_skip ?_
 refine K30 _ _ ?_
 refine wp_region_list ?_
 refine wpT_val rfl (ex_move rfl) ?_
 refine wpT_val (v:=.agg #[pt b25,x26,x27,pt b28]) rfl (ex_load_row 203 _ rfl (by exact E6_5) B29 Tryz.underlying203 rfl (by kernel_rfl)) ?_
 refine wpT_bs1 (e:=203) 4 (cs:=#[pt b25,x26,x27,pt b28]) rfl rfl rfl rfl (by kernel_rfl) (by kernel_rfl) (by decide) (by decide) rfl fun b33 w32 A33 B33 ow32=>?_
 have N1_33:=Nat.ne_of_lt (Nat.lt_of_lt_of_le (lt_of B1) A33)
 have N11_33:=Nat.ne_of_lt (Nat.lt_of_lt_of_le (lt_of B11) A33)
 have N29_33:=Nat.ne_of_lt (Nat.lt_of_lt_of_le (lt_of B29) A33)
 replace A33:=Nat.le_trans bel.size A33
 replace B1:=(ow32.block b1 (lt_of B1)).trans B1
 replace B11:=(ow32.block b11 (lt_of B11)).trans B11
 replace B29:=(ow32.block b29 (lt_of B29)).trans B29
 replace F15:=(RatP x.a).grow (Rgn.Below.growS ow32 (Nat.le_refl _) _) F15
 replace F18:=(RatP x.c).grow (Rgn.Below.growS ow32 (Nat.le_refl _) _) F18
 replace F21:=(RatP x.a).grow (Rgn.Below.growS ow32 (Nat.le_refl _) _) F21
 replace F24:=(RatP x.c).grow (Rgn.Below.growS ow32 (Nat.le_refl _) _) F24
 replace F25:=(RatP x.a).grow (Rgn.Below.growS ow32 (Nat.le_refl _) _) F25
 replace F28:=(RatP x.c).grow (Rgn.Below.growS ow32 (Nat.le_refl _) _) F28
 replace F_x16:=(RatN x.b.re).grow (Rgn.Below.growS ow32 (Nat.le_refl _) _) F_x16
 replace F_x17:=(RatN x.b.im).grow (Rgn.Below.growS ow32 (Nat.le_refl _) _) F_x17
 replace F_x22:=(RatN x.b.re).grow (Rgn.Below.growS ow32 (Nat.le_refl _) _) F_x22
 replace F_x23:=(RatN x.b.im).grow (Rgn.Below.growS ow32 (Nat.le_refl _) _) F_x23
 replace F_x26:=(RatN x.b.re).grow (Rgn.Below.growS ow32 (Nat.le_refl _) _) F_x26
 replace F_x27:=(RatN x.b.im).grow (Rgn.Below.growS ow32 (Nat.le_refl _) _) F_x27
 replace bel:=bel.trans (ow32.mono bel.size)
 refine wpT_apR (n₀:=W.heap.size) 32 rfl rfl (by exact E2_0) rfl (World.ownsRow_nil _ _ _ _) B33 rfl (VP1.ratn F_x26) (VP1.ratn F_x27) rfl bel.size (by decide) (by kernel_rfl) (by kernel_rfl) (by decide) rfl fun v34 w35 O_v34 ow35 gw35=>?_
 replace F15:=(RatP x.a).grow (gw35 _) F15
 replace F18:=(RatP x.c).grow (gw35 _) F18
 replace F21:=(RatP x.a).grow (gw35 _) F21
 replace F24:=(RatP x.c).grow (gw35 _) F24
 replace F25:=(RatP x.a).grow (gw35 _) F25
 replace F28:=(RatP x.c).grow (gw35 _) F28
 replace F_x16:=(RatN x.b.re).grow (gw35 _) F_x16
 replace F_x17:=(RatN x.b.im).grow (gw35 _) F_x17
 replace F_x22:=(RatN x.b.re).grow (gw35 _) F_x22
 replace F_x23:=(RatN x.b.im).grow (gw35 _) F_x23
 replace F_x26:=(RatN x.b.re).grow (gw35 _) F_x26
 replace F_x27:=(RatN x.b.im).grow (gw35 _) F_x27
 replace B1:=(ow35.block _ X1).trans B1
 replace bel:=bel.trans ow35
 refine wpList_as (fr (.slice (some ⟨b1,0,none⟩) 2 2::U::u1 0::u1 1::u2 0::U::u5 2::u6 5::u6 7::sq u3 0 3 (u4 0::u5 0::u5 1::u6 2::u6 0::u6 1::u6 3::u6 4::u7 0::u7 1::u2 0::.agg #[pt b25,x26,x27,pt b28]::.slice (some ⟨b33,0,none⟩) 1 1::v34::us 5))) (by kernel_rfl) ?_
 refine wpT_val rfl (ex_assign rfl) ?_
 refine wpList_as (fr (.slice (some ⟨b1,0,none⟩) 2 2::U::u1 0::u1 1::v34::U::u5 2::u6 5::u6 7::sq u3 0 3 (u4 0::u5 0::u5 1::u6 2::u6 0::u6 1::u6 3::u6 4::u7 0::u7 1::u2 0::.agg #[pt b25,x26,x27,pt b28]::.slice (some ⟨b33,0,none⟩) 1 1::v34::us 5))) (by kernel_rfl) ?_
 refine wpList_nil ?_
 show _
 refine inBlock_normal ?_
 refine K9 _ _ ?_
 refine wp_region_list ?_
 refine wpT_val (v:=.int .i64 1) rfl (by have aw_:IntKind.wrap .i64 1 = 1:=(by decide); have:=E3_2; go_simp) ?_
 refine wpT_val rfl (ex_move rfl) ?_
 refine wpList_as (fr (.slice (some ⟨b1,0,none⟩) 2 2::U::u1 0::u1 1::v34::U::u5 2::u6 5::u6 7::u3 0::u3 1::.int .i64 1::u4 0::u5 0::u5 1::u6 2::u6 0::u6 1::u6 3::u6 4::u7 0::u7 1::u2 0::.agg #[pt b25,x26,x27,pt b28]::.slice (some ⟨b33,0,none⟩) 1 1::v34::.int .i64 1::us 4)) (by kernel_rfl) ?_
 refine wpList_nil ?_
 show _
 refine hK6 _ _ ?_
 refine rounds_k fun K36 hK36=>?_
 refine gs 1 (Amb S W) fun _ K37=>?_
 refine .e rfl (V:=.bool true) (fun H=>x_cmp (H.v 11 (.int .i64 1)) (H.z 10 E3_1)) ?_
 refine .dk (fun u=>.slice (some ⟨b1,0,none⟩) 2 2::U::u1 0::u1 1::v34::U::u5 2::u6 5::u6 7::u3 0::u3 1::.int .i64 1::u 0::u5 0::u5 1::u6 2::u6 0::u6 1::u6 3::u6 4::u7 0::u7 1::u2 0::.agg #[pt b25,x26,x27,pt b28]::.slice (some ⟨b33,0,none⟩) 1 1::v34::.int .i64 1::us 4) K37 bel fun u10 w10 D bel=>?_
 have E10_0:=D.q 0
 replace B1:=D.k B1
 replace F15:=D.o L15 F15
 replace F18:=D.o L18 F18
 replace F21:=D.o L21 F21
 replace F24:=D.o L24 F24
 replace F25:=D.o L25 F25
 replace F28:=D.o L28 F28
 replace O_v34:=own_low O_v34 (D.d.base.bel0 (RowKit.Below.refl _ _) (Nat.le_refl _))
 replace F_x16:=D.gr (RatN x.b.re) F_x16
 replace F_x17:=D.gr (RatN x.b.im) F_x17
 replace F_x22:=D.gr (RatN x.b.re) F_x22
 replace F_x23:=D.gr (RatN x.b.im) F_x23
 replace F_x26:=D.gr (RatN x.b.re) F_x26
 replace F_x27:=D.gr (RatN x.b.im) F_x27
 clear D
 refine wp_seq_k fun _ K38=>?_
 refine wp_cond_true (by exact E10_0) ?_
 refine wp_skip ?_
 refine K38 _ _ ?_
 refine wp_seq_k fun _ K39=>?_
 refine wp_block ?_
 refine gs 4 (Amb S W) fun _ K40=>?_
 refine .e rfl (V:=.pointer (some ⟨b1,16,none⟩)) (fun H=>x_ixs 16 (H.z 9 E3_0) (H.v 11 (.int .i64 1))) ?_
 refine .lp rfl 0 (ciC y) B1 ?_
 refine .al rfl zCi ?_
 refine .so rfl 2 (fun H=>⟨H.r 6 2,H.g 14 1⟩) ?_
 refine .dk (fun u=>.slice (some ⟨b1,0,none⟩) 2 2::U::u1 0::u1 1::v34::U::u 2::u6 5::u6 7::u3 0::u3 1::.int .i64 1::u10 0::u 0::u 1::u6 2::u6 0::u6 1::u6 3::u6 4::u7 0::u7 1::u2 0::.agg #[pt b25,x26,x27,pt b28]::.slice (some ⟨b33,0,none⟩) 1 1::v34::.int .i64 1::us 4) K40 bel fun u11 w11 D bel=>?_
 obtain ⟨b41,E11_2,A41,B41⟩:=D.st 3
 have E11_0:=D.q 0
 have E11_1:=D.q 1
 replace B1:=D.k B1
 replace F15:=D.o L15 F15
 replace F18:=D.o L18 F18
 replace F21:=D.o L21 F21
 replace F24:=D.o L24 F24
 replace F25:=D.o L25 F25
 replace F28:=D.o L28 F28
 replace O_v34:=own_low O_v34 (D.d.base.bel0 (RowKit.Below.refl _ _) (Nat.le_refl _))
 replace F_x16:=D.gr (RatN x.b.re) F_x16
 replace F_x17:=D.gr (RatN x.b.im) F_x17
 replace F_x22:=D.gr (RatN x.b.re) F_x22
 replace F_x23:=D.gr (RatN x.b.im) F_x23
 replace F_x26:=D.gr (RatN x.b.re) F_x26
 replace F_x27:=D.gr (RatN x.b.im) F_x27
 clear D
 refine gs 8 (Amb S W) fun _ K42=>?_
 refine .lr rfl 6 E11_2 B41 ?_
 refine .cR rfl [] Tryz.func155 (fun H=>⟨_,ar1 (H.g 16 0),eWheelO _ (by first | omega | exact p0 | exact p1)⟩) ?_
 refine .mn rfl 1 [1] ?_
 refine Go2.fn (i:=3) rfl (G0 rfl) (.val 3 [1,2] (RingP y)) (fun u μ ρ H=>by have e15:=H.r 15 2; have h0:=(H.a 2 rfl); obtain ⟨x0,x1,h1,h2⟩:=h0; rw [h1] at e15; exact ⟨x0,by clear H; go_simp,SP.tupKeep (by decide) (by decide) h2.1⟩) ?_
 refine .e rfl (V:=.bool true) (fun H=>by have e15:=H.r 15 2; have h0:=(H.a 2 rfl); obtain ⟨x0,x1,h1,h2,h3⟩:=h0; rw [h1] at e15; have h3:x1 = .bool true:=h3; subst h3; clear H; go_simp) ?_
 refine .al rfl (#[.pointer none,.pointer none,.pointer none,.pointer none]) ?_
 refine Go2.storeOwn (i:=6) (m:=5) rfl rfl (.head _) (SP.cells 5 [3] (fun u=>#[((u 3).v.cells.getD 0 undef),((u 3).v.cells.getD 1 undef),((u 3).v.cells.getD 2 undef),((u 3).v.cells.getD 3 undef)]) 203 (by intro u u' h; simp [h 3 (by simp)])) (fun u μ ρ b H h0 hB hb=>?_) ?_
 · have e7:=H.r 7 5; have e18:=H.r 18 3
   rw [h0] at e7
   obtain ⟨x1,x2,x3,x4,h1,h2,h3,h4,h5⟩:=(H.a 3 rfl)
   have o1:=VP1.rat h2
   have o2:=VP1.ratn h3
   have o3:=VP1.ratn h4
   have o4:=VP1.rat h5
   rw [h1] at e18
   refine ⟨μ.setRow b #[x1,x2,x3,x4],ex_store_row 203 _ _ rfl e7 e18 hb (by kernel_rfl) rfl (by simp [o1,o2,o3,o4] <;> rfl),fun g=>⟨b,?_,hB,?_⟩,setRow_only _ _ _⟩
   · rw [upd_other _ _ (by decide)]; exact h0
   · rw [setRow_at hb]; try simp [upd,h1,Value.cells]
 refine .mv rfl 4 ?_
 refine .dk (fun u=>.slice (some ⟨b1,0,none⟩) 2 2::U::u1 0::u1 1::v34::U::u11 2::u 5::u 7::u3 0::u3 1::.int .i64 1::u10 0::u11 0::u11 1::u 2::u 0::u 1::u 3::u 4::u7 0::u7 1::u2 0::.agg #[pt b25,x26,x27,pt b28]::.slice (some ⟨b33,0,none⟩) 1 1::v34::.int .i64 1::us 4) K42 bel fun u12 w12 D bel=>?_
 obtain ⟨x43,x44,E12_1,F_x43,F_x44⟩:=(D.rr 1)
 obtain ⟨b45,x46,x47,b48,rfl,L45,L48,F45,F_x46,F_x47,F48⟩:=RingP.elim F_x43
 obtain rfl:x44 = _:=F_x44
 obtain ⟨x49,x50,E12_2,F_x49,F_x50⟩:=(D.rr 2)
 obtain ⟨b51,x52,x53,b54,rfl,L51,L54,F51,F_x52,F_x53,F54⟩:=RingP.elim F_x49
 obtain rfl:x50 = _:=F_x50
 obtain ⟨b55,x56,x57,b58,E12_3,L55,L58,F55,F_x56,F_x57,F58⟩:=RingP.elim (D.rr 3)
 obtain ⟨b59,E12_5,A59,B59⟩:=(D.a 6 rfl)
 replace A59:=le2 D.le A59
 have E12_0:=D.q 0
 have E12_4:=D.q 4
 have E12_7:=D.q 7
 replace B1:=D.k B1
 replace B41:=D.k B41
 simp only [Value.cells,E12_1,E12_2,E12_3,E12_5] at B59
 replace B59:w12.heap[b59]? = some (.cells #[pt b55,x56,x57,pt b58] 203 (0,0)):=B59
 replace F25:=D.o L25 F25
 replace F28:=D.o L28 F28
 replace O_v34:=own_low O_v34 (D.d.base.bel0 (RowKit.Below.refl _ _) (Nat.le_refl _))
 replace F_x26:=D.gr (RatN x.b.re) F_x26
 replace F_x27:=D.gr (RatN x.b.im) F_x27
 clear D
 refine wp_seq_k fun _ K60=>?_
 refine gs 2 (Amb S W) fun _ K61=>?_
 refine .mz rfl 8 E12_7 ?_
 refine .e rfl (V:=.bool false) (fun H=>x_not (H.g 20 0)) ?_
 refine .dk (fun u=>.slice (some ⟨b1,0,none⟩) 2 2::U::u1 0::u1 1::v34::U::u11 2::u12 5::u12 7::u3 0::u3 1::.int .i64 1::u10 0::u11 0::u11 1::u12 2::u12 0::u12 1::u12 3::u12 4::u 0::u 1::u2 0::.agg #[pt b25,x26,x27,pt b28]::.slice (some ⟨b33,0,none⟩) 1 1::v34::.int .i64 1::us 4) K61 bel fun u13 w13 D bel=>?_
 have E13_0:=D.q 0
 have E13_1:=D.q 1
 replace B1:=D.k B1
 replace B41:=D.k B41
 replace B59:=D.k B59
 replace F25:=D.o L25 F25
 replace F28:=D.o L28 F28
 replace F45:=D.o L45 F45
 replace F48:=D.o L48 F48
 replace F51:=D.o L51 F51
 replace F54:=D.o L54 F54
 replace F55:=D.o L55 F55
 replace F58:=D.o L58 F58
 replace O_v34:=own_low O_v34 (D.d.base.bel0 (RowKit.Below.refl _ _) (Nat.le_refl _))
 replace F_x26:=D.gr (RatN x.b.re) F_x26
 replace F_x27:=D.gr (RatN x.b.im) F_x27
 replace F_x46:=D.gr (RatN y.b.re) F_x46
 replace F_x47:=D.gr (RatN y.b.im) F_x47
 replace F_x52:=D.gr (RatN y.b.re) F_x52
 replace F_x53:=D.gr (RatN y.b.im) F_x53
 replace F_x56:=D.gr (RatN y.b.re) F_x56
 replace F_x57:=D.gr (RatN y.b.im) F_x57
 clear D
 refine wp_cond_false (by exact E13_1) ?_
 refine wp_skip ?_
 refine K60 _ _ ?_
 refine wp_region_list ?_
 refine wpT_val rfl (ex_move rfl) ?_
 refine wpList_as (fr (.slice (some ⟨b1,0,none⟩) 2 2::U::u1 0::u1 1::v34::U::u11 2::u12 5::u12 7::u3 0::u3 1::.int .i64 1::u10 0::u11 0::u11 1::u12 2::u12 0::u12 1::u12 3::u12 4::u13 0::u13 1::v34::.agg #[pt b25,x26,x27,pt b28]::.slice (some ⟨b33,0,none⟩) 1 1::v34::.int .i64 1::us 4)) (by kernel_rfl) ?_
 refine wpT_val (v:=.agg #[pt b55,x56,x57,pt b58]) rfl (ex_load_row 203 _ rfl (by exact E12_5) B59 Tryz.underlying203 rfl (by kernel_rfl)) ?_
 refine wpT_bs1 (e:=203) 4 (cs:=#[pt b55,x56,x57,pt b58]) rfl rfl rfl rfl (by kernel_rfl) (by kernel_rfl) (by decide) (by decide) rfl fun b63 w62 A63 B63 ow62=>?_
 have N1_63:=Nat.ne_of_lt (Nat.lt_of_lt_of_le (lt_of B1) A63)
 have N41_63:=Nat.ne_of_lt (Nat.lt_of_lt_of_le (lt_of B41) A63)
 have N59_63:=Nat.ne_of_lt (Nat.lt_of_lt_of_le (lt_of B59) A63)
 replace A63:=Nat.le_trans bel.size A63
 replace O_v34:=own_low O_v34 ow62
 replace B1:=(ow62.block b1 (lt_of B1)).trans B1
 replace B41:=(ow62.block b41 (lt_of B41)).trans B41
 replace B59:=(ow62.block b59 (lt_of B59)).trans B59
 replace F25:=(RatP x.a).grow (Rgn.Below.growS ow62 (Nat.le_refl _) _) F25
 replace F28:=(RatP x.c).grow (Rgn.Below.growS ow62 (Nat.le_refl _) _) F28
 replace F45:=(RatP y.a).grow (Rgn.Below.growS ow62 (Nat.le_refl _) _) F45
 replace F48:=(RatP y.c).grow (Rgn.Below.growS ow62 (Nat.le_refl _) _) F48
 replace F51:=(RatP y.a).grow (Rgn.Below.growS ow62 (Nat.le_refl _) _) F51
 replace F54:=(RatP y.c).grow (Rgn.Below.growS ow62 (Nat.le_refl _) _) F54
 replace F55:=(RatP y.a).grow (Rgn.Below.growS ow62 (Nat.le_refl _) _) F55
 replace F58:=(RatP y.c).grow (Rgn.Below.growS ow62 (Nat.le_refl _) _) F58
 replace F_x26:=(RatN x.b.re).grow (Rgn.Below.growS ow62 (Nat.le_refl _) _) F_x26
 replace F_x27:=(RatN x.b.im).grow (Rgn.Below.growS ow62 (Nat.le_refl _) _) F_x27
 replace F_x46:=(RatN y.b.re).grow (Rgn.Below.growS ow62 (Nat.le_refl _) _) F_x46
 replace F_x47:=(RatN y.b.im).grow (Rgn.Below.growS ow62 (Nat.le_refl _) _) F_x47
 replace F_x52:=(RatN y.b.re).grow (Rgn.Below.growS ow62 (Nat.le_refl _) _) F_x52
 replace F_x53:=(RatN y.b.im).grow (Rgn.Below.growS ow62 (Nat.le_refl _) _) F_x53
 replace F_x56:=(RatN y.b.re).grow (Rgn.Below.growS ow62 (Nat.le_refl _) _) F_x56
 replace F_x57:=(RatN y.b.im).grow (Rgn.Below.growS ow62 (Nat.le_refl _) _) F_x57
 replace bel:=bel.trans (ow62.mono bel.size)
 refine wpT_apR (n₀:=W.heap.size) 32 rfl rfl rfl rfl O_v34 B63 rfl (VP1.ratn F_x56) (VP1.ratn F_x57) rfl bel.size (by decide) (by kernel_rfl) (by kernel_rfl) (by decide) rfl fun v64 w65 O_v64 ow65 gw65=>?_
 replace F25:=(RatP x.a).grow (gw65 _) F25
 replace F28:=(RatP x.c).grow (gw65 _) F28
 replace F45:=(RatP y.a).grow (gw65 _) F45
 replace F48:=(RatP y.c).grow (gw65 _) F48
 replace F51:=(RatP y.a).grow (gw65 _) F51
 replace F54:=(RatP y.c).grow (gw65 _) F54
 replace F55:=(RatP y.a).grow (gw65 _) F55
 replace F58:=(RatP y.c).grow (gw65 _) F58
 replace F_x26:=(RatN x.b.re).grow (gw65 _) F_x26
 replace F_x27:=(RatN x.b.im).grow (gw65 _) F_x27
 replace F_x46:=(RatN y.b.re).grow (gw65 _) F_x46
 replace F_x47:=(RatN y.b.im).grow (gw65 _) F_x47
 replace F_x52:=(RatN y.b.re).grow (gw65 _) F_x52
 replace F_x53:=(RatN y.b.im).grow (gw65 _) F_x53
 replace F_x56:=(RatN y.b.re).grow (gw65 _) F_x56
 replace F_x57:=(RatN y.b.im).grow (gw65 _) F_x57
 replace B1:=(ow65.block _ X1).trans B1
 replace bel:=bel.trans ow65
 refine wpT_val rfl (ex_assign rfl) ?_
 refine wpList_as (fr (.slice (some ⟨b1,0,none⟩) 2 2::U::u1 0::u1 1::v64::U::u11 2::u12 5::u12 7::u3 0::u3 1::.int .i64 1::u10 0::u11 0::u11 1::u12 2::u12 0::u12 1::u12 3::u12 4::u13 0::u13 1::v34::.agg #[pt b55,x56,x57,pt b58]::.slice (some ⟨b63,0,none⟩) 1 1::v64::.int .i64 1::us 4)) (by kernel_rfl) ?_
 refine wpList_as (fr (.slice (some ⟨b1,0,none⟩) 2 2::U::u1 0::u1 1::v64::U::u11 2::u12 5::u12 7::u3 0::u3 1::.int .i64 1::u10 0::u11 0::u11 1::u12 2::u12 0::u12 1::u12 3::u12 4::u13 0::u13 1::v34::.agg #[pt b55,x56,x57,pt b58]::.slice (some ⟨b63,0,none⟩) 1 1::v64::.int .i64 1::us 4)) (by kernel_rfl) ?_
 refine wpList_nil ?_
 show _
 refine inBlock_normal ?_
 refine K39 _ _ ?_
 refine wp_region_list ?_
 refine wpT_val (v:=.int .i64 2) rfl (by have aw_:IntKind.wrap .i64 2 = 2:=(by decide); go_simp) ?_
 refine wpT_val rfl (ex_move rfl) ?_
 refine wpList_as (fr (.slice (some ⟨b1,0,none⟩) 2 2::U::u1 0::u1 1::v64::U::u11 2::u12 5::u12 7::u3 0::u3 1::.int .i64 2::u10 0::u11 0::u11 1::u12 2::u12 0::u12 1::u12 3::u12 4::u13 0::u13 1::v34::.agg #[pt b55,x56,x57,pt b58]::.slice (some ⟨b63,0,none⟩) 1 1::v64::.int .i64 2::us 4)) (by kernel_rfl) ?_
 refine wpList_nil ?_
 show _
 refine hK36 _ _ ?_
 refine rounds_k fun K66 hK66=>?_
 refine gs 1 (Amb S W) fun _ K67=>?_
 refine .e rfl (V:=.bool false) (fun H=>x_cmp (H.v 11 (.int .i64 2)) (H.z 10 E3_1)) ?_
 refine .dk (fun u=>.slice (some ⟨b1,0,none⟩) 2 2::U::u1 0::u1 1::v64::U::u11 2::u12 5::u12 7::u3 0::u3 1::.int .i64 2::u 0::u11 0::u11 1::u12 2::u12 0::u12 1::u12 3::u12 4::u13 0::u13 1::v34::.agg #[pt b55,x56,x57,pt b58]::.slice (some ⟨b63,0,none⟩) 1 1::v64::.int .i64 2::us 4) K67 bel fun u16 w16 D bel=>?_
 have E16_0:=D.q 0
 replace B1:=D.k B1
 replace F25:=D.o L25 F25
 replace F28:=D.o L28 F28
 replace F45:=D.o L45 F45
 replace F48:=D.o L48 F48
 replace F51:=D.o L51 F51
 replace F54:=D.o L54 F54
 replace F55:=D.o L55 F55
 replace F58:=D.o L58 F58
 replace O_v64:=own_low O_v64 (D.d.base.bel0 (RowKit.Below.refl _ _) (Nat.le_refl _))
 replace F_x26:=D.gr (RatN x.b.re) F_x26
 replace F_x27:=D.gr (RatN x.b.im) F_x27
 replace F_x46:=D.gr (RatN y.b.re) F_x46
 replace F_x47:=D.gr (RatN y.b.im) F_x47
 replace F_x52:=D.gr (RatN y.b.re) F_x52
 replace F_x53:=D.gr (RatN y.b.im) F_x53
 replace F_x56:=D.gr (RatN y.b.re) F_x56
 replace F_x57:=D.gr (RatN y.b.im) F_x57
 clear D
 refine wp_seq_k fun _ K68=>?_
 refine wp_cond_false (by exact E16_0) ?_
 refine wp_exit ?_
 refine then_exit ?_
 refine then_exit ?_
 refine inBlock_here ?_
 refine K4 _ _ ?_
 refine wp_seq_k fun _ K69=>?_
 refine gs 3 (Amb S W) fun _ K70=>?_
 refine .mz rfl 0 (V:=.slice (some ⟨b1,0,none⟩) 2 2) rfl ?_
 refine .e rfl (V:=.int .i64 2) (fun H=>x_lens (H.g 27 0)) ?_
 refine .e rfl (V:=.bool false) (fun H=>x_cmp (H.g 28 1) (H.c _)) ?_
 refine .dk (fun u=>.slice (some ⟨b1,0,none⟩) 2 2::U::u1 0::u1 1::v64::U::u11 2::u12 5::u12 7::u3 0::u3 1::.int .i64 2::u16 0::u11 0::u11 1::u12 2::u12 0::u12 1::u12 3::u12 4::u13 0::u13 1::v34::.agg #[pt b55,x56,x57,pt b58]::.slice (some ⟨b63,0,none⟩) 1 1::v64::.int .i64 2::sq u 0 3 (U::[])) K70 bel fun u17 w17 D bel=>?_
 have E17_2:=D.q 2
 replace F25:=D.o L25 F25
 replace F28:=D.o L28 F28
 replace F55:=D.o L55 F55
 replace F58:=D.o L58 F58
 replace O_v64:=own_low O_v64 (D.d.base.bel0 (RowKit.Below.refl _ _) (Nat.le_refl _))
 replace F_x26:=D.gr (RatN x.b.re) F_x26
 replace F_x27:=D.gr (RatN x.b.im) F_x27
 replace F_x56:=D.gr (RatN y.b.re) F_x56
 replace F_x57:=D.gr (RatN y.b.im) F_x57
 clear D
 refine wp_cond_false (by exact E17_2) ?_
 refine wp_skip ?_
 refine K69 _ _ ?_
 refine gs 3 (Amb S W) fun _ K71=>?_
 refine .mz rfl 4 (V:=v64) rfl ?_
 refine .mv rfl 0 ?_
 refine .mc rfl ?_
 refine .dk (fun u=>.slice (some ⟨b1,0,none⟩) 2 2::U::u 1::u 2::v64::U::u11 2::u12 5::u12 7::u3 0::u3 1::.int .i64 2::u16 0::u11 0::u11 1::u12 2::u12 0::u12 1::u12 3::u12 4::u13 0::u13 1::v34::.agg #[pt b55,x56,x57,pt b58]::.slice (some ⟨b63,0,none⟩) 1 1::v64::.int .i64 2::sq u17 0 3 (u 0::[])) K71 bel fun u18 w18 D bel=>?_
 have E18_1:=D.q 1
 have E18_2:=D.q 2
 replace F25:=D.o L25 F25
 replace F28:=D.o L28 F28
 replace F55:=D.o L55 F55
 replace F58:=D.o L58 F58
 replace O_v64:=own_low O_v64 (D.d.base.bel0 (RowKit.Below.refl _ _) (Nat.le_refl _))
 replace F_x26:=D.gr (RatN x.b.re) F_x26
 replace F_x27:=D.gr (RatN x.b.im) F_x27
 replace F_x56:=D.gr (RatN y.b.re) F_x56
 replace F_x57:=D.gr (RatN y.b.im) F_x57
 clear D
 refine wp_ret ?_
 obtain ⟨b_,cap_,cur_,e_,hb_,hB_,hq_⟩:=own_open O_v64 (by decide)
 subst e_
 exact ret_ok rfl (by exact results_two rfl (by exact E18_1) (by exact E18_2)) ⟨b_,cap_,cur_,_,rfl,hb_,hB_,hq_,⟨(RingP.mk (VP.at F25 L25) F_x26 F_x27 (VP.at F28 L28)),⟨(RingP.mk (VP.at F55 L55) F_x56 F_x57 (VP.at F58 L58)),trivial⟩⟩,bel⟩
end Go.Proofs.YtcpjdjnaipbieaaGreat
namespace Go.Proofs.YtcpjdjnaipbieaaGreat
open Go.RowKit Rgn
@[reducible] def Exc (b:Nat) (φ:VP):VP:=⟨fun S v w=>φ.p (fun k=>S k ∧ k ≠ b) v w,fun hS h=>φ.mono (fun k hk h=>⟨hS k hk h.1,h.2⟩) h,fun {S v w w'} hg h =>
 φ.grow ⟨hg.os,hg.tape,hg.output,hg.size,fun k hk=>(hg.block k hk).imp id (fun h=>h.imp id (fun h=>⟨h.1,fun hS=>h.2 hS.1⟩))⟩ h⟩
@[reducible] def Lss (n:Nat) (φ:VP):VP:=⟨fun S v w=>φ.p (fun k=>S k ∧ k < n) v w,fun hS h=>φ.mono (fun k hk h=>⟨hS k hk h.1,h.2⟩) h,fun {S v w w'} hg h =>
 φ.grow ⟨hg.os,hg.tape,hg.output,hg.size,fun k hk=>(hg.block k hk).imp id (fun h=>h.imp id (fun h=>⟨h.1,fun hS=>h.2 hS.1⟩))⟩ h⟩
theorem Lss.of (φ:VP) {S:Nat → Prop} {v:Value} {w:World} (h:φ.p S v w):(Lss w.heap.size φ).p S v w:=VP.inS φ (Nat.le_refl _) h
theorem Exc.of {n b:Nat} (φ:VP) {S:Nat → Prop} {v:Value} {w:World} (hn:∀ k,k < n → k ≠ b) (h:(Lss n φ).p S v w):(Exc b φ).p S v w:=φ.mono (fun k _ h=>⟨h.1,hn k h.2⟩) h
theorem Exc.un {b:Nat} {φ:VP} {S:Nat → Prop} {v:Value} {w:World} (h:(Exc b φ).p S v w):φ.p (fun k=>S k ∧ k ≠ b) v w:=h
theorem excC {P:Program} {f:FuncId} {args:Array Value} {W:World} {φ:VP} {S:Nat → Prop} {b:Nat} (hb:b < W.heap.size) (h:Calls P f args W (Ret φ (fun k=>S k ∧ k ≠ b) W)):Calls P f args W (Ret (Exc b φ) S W) :=
 h.mono fun _ _ ⟨v,h1,h2,h3⟩=>⟨v,h1,φ.mono (fun _ _ h=>h.elim (fun h=>⟨.inl h.1,h.2⟩) fun h=>⟨.inr h,Nat.ne_of_gt (Nat.lt_of_lt_of_le hb h)⟩) h2,h3⟩
end Go.Proofs.YtcpjdjnaipbieaaGreat
namespace Go.Proofs.YtcpjdjnaipbieaaGreat
open Go.RowKit Rgn
set_option maxHeartbeats 4000000
set_option maxRecDepth 100000
variable {S:Nat → Prop} {W:World}
theorem ivProd {v0:Value} {v1:Value} (c:Ci) (d:Ci) (t0:(RingP c).p S v0 W) (t1:(RingP d).p S v1 W) (p0:ht c.a + ht c.b.re + ht c.b.im + ht c.c + (ht d.a + ht d.b.re + ht d.b.im + ht d.c) ≤ 67108864) :
  Calls Tryz.prog 161 #[v0,v1] W (Ret (RatP (c.dot d)) S W):=by
 obtain ⟨b1,x2,x3,b4,rfl,L1,L4,F1,F_x2,F_x3,F4⟩:=RingP.elim t0
 replace L1:Amb S W b1:=.inl L1
 replace F_x2:(RatN c.b.re).p (Amb S W) x2 W:=(RatN c.b.re).mono (fun _ _ h=>.inl h) F_x2
 replace F_x3:(RatN c.b.im).p (Amb S W) x3 W:=(RatN c.b.im).mono (fun _ _ h=>.inl h) F_x3
 replace L4:Amb S W b4:=.inl L4
 obtain ⟨b5,x6,x7,b8,rfl,L5,L8,F5,F_x6,F_x7,F8⟩:=RingP.elim t1
 replace L5:Amb S W b5:=.inl L5
 replace F_x6:(RatN d.b.re).p (Amb S W) x6 W:=(RatN d.b.re).mono (fun _ _ h=>.inl h) F_x6
 replace F_x7:(RatN d.b.im).p (Amb S W) x7 W:=(RatN d.b.im).mono (fun _ _ h=>.inl h) F_x7
 replace L8:Amb S W b8:=.inl L8
 have z2:ht (Rat.divInt (1:Int) (2:Int)) = 3:=by decide
 have h1:=ht_mul c.a d.c
 have h2:=ht_mul d.a c.c
 have h3:=hc_conj d.b
 have h4:=hc_mul c.b d.b.conj
 have h5:=ht_add (c.a * d.c) (d.a * c.c)
 have h6:=ht_mul (c.a * d.c + d.a * c.c) (Rat.divInt (1:Int) (2:Int))
 have bel:=b0 W
 go_enter Tryz.func161,Tryz.ntmps161
 refine gs 3 (Amb S W) fun _ K9=>?_
 refine .bx rfl (fun H=>H.v 0 (.agg #[pt b1,x2,x3,pt b4])) ?_
 refine .bx rfl (fun H=>H.v 1 (.agg #[pt b5,x6,x7,pt b8])) ?_
 refine .mc rfl ?_
 refine .dk (fun u=>.agg #[pt b1,x2,x3,pt b4]::.agg #[pt b5,x6,x7,pt b8]::sq u 0 3 (us 34)) K9 bel fun u1 w1 D bel=>?_
 obtain ⟨b10,E1_0,A10,B10⟩:=D.nw 0
 obtain ⟨b11,E1_1,A11,B11⟩:=D.nw 1
 have E1_2:=D.q 2
 replace F1:=D.o L1 F1
 replace F4:=D.o L4 F4
 replace F5:=D.o L5 F5
 replace F8:=D.o L8 F8
 replace F_x2:=D.gr (RatN c.b.re) F_x2
 replace F_x3:=D.gr (RatN c.b.im) F_x3
 replace F_x6:=D.gr (RatN d.b.re) F_x6
 replace F_x7:=D.gr (RatN d.b.im) F_x7
 clear D
 refine gd 15 (Amb S W) fun _ K12=>?_
 refine .al rfl zQ ?_
 refine .al rfl zQ ?_
 refine .fz rfl 2 0 E1_0 ?_
 refine .lc rfl 2 B10 ?_ (V:=pt b1)
 refine .fz rfl 3 3 E1_1 ?_
 refine .lc rfl 4 B11 ?_ (V:=pt b8)
 refine .cO rfl 1 Tryz.func190 (fun H h0 hz=>⟨_,ar3 (H.p 9 1 h0) (H.g 11 3) (H.g 13 5),qMul _ _ (RatBlk.of hz) (VP.any _ (H.was _ [] (VP.at F1 L1))) (VP.any _ (H.was _ [] (VP.at F8 L8))) (by first | omega | (dsimp only at *; omega))⟩) ?_
 refine .al rfl zQ ?_
 refine .fz rfl 3 0 E1_1 ?_
 refine .lc rfl 8 B11 ?_ (V:=pt b5)
 refine .fz rfl 2 3 E1_0 ?_
 refine .lc rfl 10 B10 ?_ (V:=pt b4)
 refine .cO rfl 7 Tryz.func190 (fun H h0 hz=>⟨_,ar3 (H.p 15 7 h0) (H.g 17 9) (H.g 19 11),qMul _ _ (RatBlk.of hz) (VP.any _ (H.was _ [] (VP.at F5 L5))) (VP.any _ (H.was _ [] (VP.at F4 L4))) (by first | omega | (dsimp only at *; omega))⟩) ?_
 refine .cO rfl 0 Tryz.func203 (fun H h0 hz=>⟨_,ar3 (H.p 8 0 h0) (H.r 14 6) (H.r 20 12),qAdd _ _ (RatBlk.of hz) (Own.any (H.a 6 rfl)) (Own.any (H.a 12 rfl)) (by first | omega | (dsimp only at *; omega))⟩) ?_
 refine .mo rfl 13 ?_
 refine .dk (fun u=>.agg #[pt b1,x2,x3,pt b4]::.agg #[pt b5,x6,x7,pt b8]::sq u1 0 3 (u 14::U::U::sq u 0 14 (us 17))) K12 bel fun u2 w2 D bel=>?_
 obtain ⟨b13,E2_14,A13,F13⟩:=D.ow 14
 have N13:∀ k,k < w1.heap.size → k ≠ b13:=fun k hk=>D.n1 0 hk ((D.a 14 rfl).1.symm.trans E2_14)
 have N10_13:=D.n1 0 (lt_of B10) ((D.a 14 rfl).1.symm.trans E2_14)
 have N11_13:=D.n1 0 (lt_of B11) ((D.a 14 rfl).1.symm.trans E2_14)
 have N1_13:=D.n1 0 (RatP.lt F1) ((D.a 14 rfl).1.symm.trans E2_14)
 have N4_13:=D.n1 0 (RatP.lt F4) ((D.a 14 rfl).1.symm.trans E2_14)
 have N5_13:=D.n1 0 (RatP.lt F5) ((D.a 14 rfl).1.symm.trans E2_14)
 have N8_13:=D.n1 0 (RatP.lt F8) ((D.a 14 rfl).1.symm.trans E2_14)
 replace B10:=D.k B10
 replace B11:=D.k B11
 replace F1:=D.o L1 F1
 replace F4:=D.o L4 F4
 replace F5:=D.o L5 F5
 replace F8:=D.o L8 F8
 replace F_x2:=Exc.of _ N13 (D.gr (Lss w1.heap.size (RatN c.b.re)) (Lss.of _ F_x2))
 replace F_x3:=Exc.of _ N13 (D.gr (Lss w1.heap.size (RatN c.b.im)) (Lss.of _ F_x3))
 replace F_x6:=Exc.of _ N13 (D.gr (Lss w1.heap.size (RatN d.b.re)) (Lss.of _ F_x6))
 replace F_x7:=Exc.of _ N13 (D.gr (Lss w1.heap.size (RatN d.b.im)) (Lss.of _ F_x7))
 have L13:Amb S W b13:=.inr A13
 clear D
 refine gd 12 (Amb S W) fun _ K14=>?_
 refine .fz rfl 2 1 E1_0 ?_
 refine .lp rfl 0 (#[x2,x3]) B10 ?_
 refine .fz rfl 3 1 E1_1 ?_
 refine .lp rfl 2 (#[x6,x7]) B11 ?_
 refine .cR rfl [] Tryz.func136 (fun H=>⟨_,ar1 (H.g 26 3),excC (Nat.lt_of_lt_of_le (RatP.lt F13) H.here.base.grow.size) (eConj d.b (NumP.mk (Exc.un (H.was _ [] F_x6)) (Exc.un (H.was _ [] F_x7))) (by first | omega | (dsimp only at *; omega)))⟩) ?_
 refine .cR rfl [4] Tryz.func137 (fun H=>⟨_,ar2 (H.g 24 1) (H.r 27 4),excC (Nat.lt_of_lt_of_le (RatP.lt F13) H.here.base.grow.size) (eNMul c.b d.b.conj (NumP.mk (Exc.un (H.was _ [4] F_x2)) (Exc.un (H.was _ [4] F_x3))) (Exc.un (SV.sub [4] (H.a 4 rfl) rfl)) (by first | omega | (dsimp only at *; omega)))⟩) ?_
 refine .cR rfl [4,5] Tryz.func139 (fun H=>⟨_,ar1 (H.r 28 5),excC (Nat.lt_of_lt_of_le (RatP.lt F13) H.here.base.grow.size) (eParts (c.b.mul d.b.conj) (Exc.un (SV.sub [4,5] (H.a 5 rfl) rfl)))⟩) ?_
 refine .mn rfl 6 [4,5,6] ?_
 refine Go2.fn (i:=8) rfl (G0 rfl) (.val 8 [4,5,6,7] (Exc b13 (RatP ((c.b.mul d.b.conj).re)))) (fun u μ ρ H=>by have e22:=H.r 22 7; have h0:=(H.a 7 rfl); obtain ⟨x0,x1,h1,h2⟩:=h0; rw [h1] at e22; exact ⟨x0,by clear H; go_simp,SP.tupKeep (by decide) (by decide) h2.1⟩) ?_
 refine Go2.fn (i:=9) rfl (G0 rfl) (.val 9 [4,5,6,7] (Exc b13 (RatP ((c.b.mul d.b.conj).im)))) (fun u μ ρ H=>by have e22:=H.r 22 7; have h0:=(H.a 7 rfl); obtain ⟨x0,x1,h1,h2⟩:=h0; rw [h1] at e22; exact ⟨x1,by clear H; go_simp,SP.tupKeep (by decide) (by decide) h2.2⟩) ?_
 refine .mn rfl 8 [4,5,6,7,8] ?_
 refine .mn rfl 9 [4,5,6,7,9] ?_
 refine .dk (fun u=>.agg #[pt b1,x2,x3,pt b4]::.agg #[pt b5,x6,x7,pt b8]::sq u1 0 3 (u2 14::u 10::u 11::sq u2 0 14 (u 7::sq u 0 7 (u 8::u 9::us 7)))) K14 bel fun u3 w3 D bel=>?_
 obtain ⟨b15,E3_10,L15,F15⟩:=RatP.elim (Exc.un (D.rr 10))
 have N13_15:=L15.2.symm
 replace L15:=L15.1
 replace F13:=D.o L13 F13
 clear D
 refine wp_seq_k fun _ K16=>?_
 refine go2_seqT 4 4 rfl (Amb S W) [] [] (Olds.nil _) (by kernel_rfl) ?_
 refine .mz rfl 5 E2_14 ?_
 refine .mz rfl 5 E2_14 ?_
 refine .mz rfl 5 E2_14 ?_
 refine .cR rfl [] Tryz.func132 (fun H=>⟨_,ar2 (H.c (.int .i64 1)) (H.c (.int .i64 2)),qNewRat _ _ (by first | omega | (dsimp only at *; omega)) (by first | omega | (dsimp only at *; omega)) (by first | omega | (dsimp only at *; omega)) (by first | omega | (dsimp only at *; omega)) (by first | omega | (dsimp only at *; omega))⟩) ?_
 refine .dT (fun u=>.agg #[pt b1,x2,x3,pt b4]::.agg #[pt b5,x6,x7,pt b8]::u1 0::u1 1::u 7::u2 14::u3 10::u3 11::sq u2 0 14 (u3 7::sq u3 0 7 (u3 8::u3 9::sq u 0 7 []))) bel.size _ rfl fun u4 w4 D=>?_
 obtain ⟨b17,E4_3,L17,F17⟩:=RatP.elim (D.rr 3)
 have E4_0:=D.q 0
 have E4_1:=D.q 1
 have E4_2:=D.q 2
 replace F13:=D.o L13 F13
 replace F15:=D.o L15 F15
 replace bel:=D.d.base.bel0 bel bel.size
 clear D
 refine wpT_callO (args:=#[pt b13,pt b13,pt b17]) rfl (ex_call rfl rfl Tryz.func190 (by kernel_rfl) (by kernel_rfl) (by simp only [List.map_toArray,List.map_cons,List.map_nil]; show #[(u4 1).v,(u4 2).v,(u4 3).v] = #[pt b13,pt b13,pt b17]; rw [E4_1,E4_2,E4_3])) (qMul (z:=b13) (x:=(c.a * d.c) + (d.a * c.c)) (y:=Rat.divInt (1:Int) (2:Int)) (RatP.blk F13) (VP.any _ F13) (VP.any _ F17) (by first | omega | (dsimp only at *; omega))) fun w18 fw18 ow18=>?_
 have sw18:Soft w4 b13 ∨ Local w4 b13:=.inl (RatP.soft F13)
 replace F15:=ow18.one sw18 _ (Ne.symm N13_15) F15
 have F13:=fw18
 have L13:Amb S W b13:=.inr A13
 replace bel:=bel.trans (only_below' ow18 A13 bel.size)
 refine wpT_val rfl (ex_move rfl) ?_
 refine wpT_callO (args:=#[pt b13,pt b13,pt b15]) rfl (ex_call rfl rfl Tryz.func192 (by kernel_rfl) (by kernel_rfl) (by simp only [List.map_toArray,List.map_cons,List.map_nil]; show #[(u4 0).v,.pointer (some ⟨b13,0,none⟩),(u3 10).v] = #[pt b13,pt b13,pt b15]; rw [E4_0,E3_10])) (qSub (z:=b13) (x:=((c.a * d.c) + (d.a * c.c)) * (Rat.divInt (1:Int) (2:Int))) (y:=(c.b.mul d.b.conj).re) (RatP.blk F13) (VP.any _ F13) (VP.any _ F15) (by first | omega | (dsimp only at *; omega))) fun w19 fw19 ow19=>?_
 have sw19:Soft w18 b13 ∨ Local w18 b13:=.inl (RatP.soft F13)
 replace F15:=ow19.one sw19 _ (Ne.symm N13_15) F15
 have F13:=fw19
 have L13:Amb S W b13:=.inr A13
 replace bel:=bel.trans (only_below' ow19 A13 bel.size)
 refine wpT_val rfl (ex_assign rfl) ?_
 refine wpList_nil ?_
 show _
 refine K16 _ _ ?_
 refine wp_ret ?_
 refine ret_ok rfl (by exact results_tmp' rfl rfl) ⟨_,rfl,?_,bel⟩
 exact (VP.at F13 L13)
theorem ivRtY (x:Ci) (y:Ci) (p0:ciOk (rci x) = true) (p1:ciOk (rci y) = true) :
  Calls Tryz.prog 34 #[ciV x,ciV y] W (RetV (.tuple #[.bool ((x.dot y).num.sign == 0),.int .i64 0]) W):=by
 have f1:=cifits_ht (ciOk_c p0).1
 have f2:=cifits_ht (ciOk_c p1).1
 have bel:=b0 W
 go_enter Tryz.func34,Tryz.ntmps34
 refine gs 4 (Amb Z0 W) fun _ K1=>?_
 refine .bx rfl (fun H=>H.v 0 (ciV x)) ?_
 refine .bx rfl (fun H=>H.v 1 (ciV y)) ?_
 refine .mc rfl ?_
 refine .mc rfl ?_
 refine .dk (fun u=>ciV x::ciV y::sq u 0 4 (us 21)) K1 bel fun u1 w1 D bel=>?_
 obtain ⟨b2,E1_0,A2,B2⟩:=D.nw 0
 obtain ⟨b3,E1_1,A3,B3⟩:=D.nw 1
 have E1_2:=D.q 2
 have E1_3:=D.q 3
 clear D
 refine wp_seq_k fun _ K4=>?_
 refine wp_region_list ?_
 refine wpT_val (v:=ciV x) rfl (ex_load_row 47 _ rfl (by exact E1_0) B2 Tryz.underlying47 rfl (by kernel_rfl)) ?_
 refine wpT_val (v:=ciV y) rfl (ex_load_row 47 _ rfl (by exact E1_1) B3 Tryz.underlying47 rfl (by kernel_rfl)) ?_
 refine wpT_bs2 (e:=47) 16 (cs:=#[.bool (decide (x.a.num < 0)),.string (bS x.a.num.natAbs),.bool (decide ((x.a.den:Int) < 0)),.string (bS (x.a.den:Int).natAbs),.bool (decide (x.b.re.num < 0)),.string (bS x.b.re.num.natAbs),.bool (decide ((x.b.re.den:Int) < 0)),.string (bS (x.b.re.den:Int).natAbs),.bool (decide (x.b.im.num < 0)),.string (bS x.b.im.num.natAbs),.bool (decide ((x.b.im.den:Int) < 0)),.string (bS (x.b.im.den:Int).natAbs),.bool (decide (x.c.num < 0)),.string (bS x.c.num.natAbs),.bool (decide ((x.c.den:Int) < 0)),.string (bS (x.c.den:Int).natAbs),.bool (decide (y.a.num < 0)),.string (bS y.a.num.natAbs),.bool (decide ((y.a.den:Int) < 0)),.string (bS (y.a.den:Int).natAbs),.bool (decide (y.b.re.num < 0)),.string (bS y.b.re.num.natAbs),.bool (decide ((y.b.re.den:Int) < 0)),.string (bS (y.b.re.den:Int).natAbs),.bool (decide (y.b.im.num < 0)),.string (bS y.b.im.num.natAbs),.bool (decide ((y.b.im.den:Int) < 0)),.string (bS (y.b.im.den:Int).natAbs),.bool (decide (y.c.num < 0)),.string (bS y.c.num.natAbs),.bool (decide ((y.c.den:Int) < 0)),.string (bS (y.c.den:Int).natAbs)]) rfl rfl rfl rfl rfl rfl (by kernel_rfl) (by kernel_rfl) (by decide) (by decide) rfl fun b6 w5 A6 B6 ow5=>?_
 have N2_6:=Nat.ne_of_lt (Nat.lt_of_lt_of_le (lt_of B2) A6)
 have N3_6:=Nat.ne_of_lt (Nat.lt_of_lt_of_le (lt_of B3) A6)
 replace A6:=Nat.le_trans bel.size A6
 replace B2:=(ow5.block b2 (lt_of B2)).trans B2
 replace B3:=(ow5.block b3 (lt_of B3)).trans B3
 replace bel:=bel.trans (ow5.mono bel.size)
 refine wpT_row (S:=Amb Z0 W) rfl (ex_call rfl rfl Tryz.func160 (by kernel_rfl) (by kernel_rfl) (by simp only [List.map_toArray,List.map_cons,List.map_nil]; rfl)) (ivWhY (x:=x) (y:=y) B6 (by first | assumption | omega | (dsimp only at *; omega)) (by first | assumption | omega | (dsimp only at *; omega))) fun b8 c8 u8 vs_ w7 A8 B8 Q8 f_0 ow7=>?_
 obtain ⟨b9,x11,x12,b10,vt_,e_,L9,L10,F9,F_x11,F_x12,F10,f_1⟩:=AllG.cons f_0
 subst e_
 replace L9:Amb Z0 W b9:=L9.elim id (fun h=>.inr (Nat.le_trans bel.size h))
 replace L10:Amb Z0 W b10:=L10.elim id (fun h=>.inr (Nat.le_trans bel.size h))
 replace F_x11:(RatN x.b.re).p (Amb Z0 W) x11 w7:=(RatN x.b.re).mono (fun _ _ h=>h.elim id (fun h=>.inr (Nat.le_trans bel.size h))) F_x11
 replace F_x12:(RatN x.b.im).p (Amb Z0 W) x12 w7:=(RatN x.b.im).mono (fun _ _ h=>h.elim id (fun h=>.inr (Nat.le_trans bel.size h))) F_x12
 obtain ⟨b13,x15,x16,b14,vt_,e_,L13,L14,F13,F_x15,F_x16,F14,f_2⟩:=AllG.cons f_1
 subst e_
 replace L13:Amb Z0 W b13:=L13.elim id (fun h=>.inr (Nat.le_trans bel.size h))
 replace L14:Amb Z0 W b14:=L14.elim id (fun h=>.inr (Nat.le_trans bel.size h))
 replace F_x15:(RatN y.b.re).p (Amb Z0 W) x15 w7:=(RatN y.b.re).mono (fun _ _ h=>h.elim id (fun h=>.inr (Nat.le_trans bel.size h))) F_x15
 replace F_x16:(RatN y.b.im).p (Amb Z0 W) x16 w7:=(RatN y.b.im).mono (fun _ _ h=>h.elim id (fun h=>.inr (Nat.le_trans bel.size h))) F_x16
 obtain rfl:=AllG.nil f_2
 replace A8:=Nat.le_trans bel.size A8
 replace B2:=(ow7.block b2 (lt_of B2)).trans B2
 replace B3:=(ow7.block b3 (lt_of B3)).trans B3
 replace B6:=(ow7.block b6 (lt_of B6)).trans B6
 replace bel:=bel.trans (ow7.mono bel.size)
 refine wpList_as (fr (ciV x::ciV y::sq u1 0 4 (U::U::U::ciV x::ciV y::.slice (some ⟨b6,0,none⟩) 2 2::.tuple #[.slice (some ⟨b8,0,none⟩) 2 c8,.int .i64 0]::us 14))) (by kernel_rfl) ?_
 refine wpT_val rfl (ex_move rfl) ?_
 refine wpT_val (v:=.slice (some ⟨b8,0,none⟩) 2 c8) rfl (x_ex (vs:=#[.slice (some ⟨b8,0,none⟩) 2 c8,.int .i64 0]) rfl) ?_
 refine wpT_val (v:=.int .i64 0) rfl (x_ex (vs:=#[.slice (some ⟨b8,0,none⟩) 2 c8,.int .i64 0]) rfl) ?_
 refine wpT_val rfl (ex_assign rfl) ?_
 refine wpList_as (fr (ciV x::ciV y::sq u1 0 4 (.slice (some ⟨b8,0,none⟩) 2 c8::U::.tuple #[.slice (some ⟨b8,0,none⟩) 2 c8,.int .i64 0]::ciV x::ciV y::.slice (some ⟨b6,0,none⟩) 2 2::.tuple #[.slice (some ⟨b8,0,none⟩) 2 c8,.int .i64 0]::.slice (some ⟨b8,0,none⟩) 2 c8::.int .i64 0::us 12))) (by kernel_rfl) ?_
 refine wpT_val rfl (ex_assign rfl) ?_
 refine wpList_as (fr (ciV x::ciV y::sq u1 0 4 (.slice (some ⟨b8,0,none⟩) 2 c8::.int .i64 0::.tuple #[.slice (some ⟨b8,0,none⟩) 2 c8,.int .i64 0]::ciV x::ciV y::.slice (some ⟨b6,0,none⟩) 2 2::.tuple #[.slice (some ⟨b8,0,none⟩) 2 c8,.int .i64 0]::.slice (some ⟨b8,0,none⟩) 2 c8::.int .i64 0::us 12))) (by kernel_rfl) ?_
 refine wpList_nil ?_
 show _
 refine K4 _ _ ?_
 refine wp_seq_k fun _ K17=>?_
 refine gs 2 (Amb Z0 W) fun _ K18=>?_
 refine .mz rfl 7 (V:=.int .i64 0) rfl ?_
 refine .e rfl (V:=.bool false) (fun H=>x_cm (H.g 15 0) (H.c _) (bne_self_eq_false (show Int from 0))) ?_
 refine .dk (fun u=>ciV x::ciV y::sq u1 0 4 (.slice (some ⟨b8,0,none⟩) 2 c8::.int .i64 0::.tuple #[.slice (some ⟨b8,0,none⟩) 2 c8,.int .i64 0]::ciV x::ciV y::.slice (some ⟨b6,0,none⟩) 2 2::.tuple #[.slice (some ⟨b8,0,none⟩) 2 c8,.int .i64 0]::.slice (some ⟨b8,0,none⟩) 2 c8::.int .i64 0::u 0::u 1::us 10)) K18 bel fun u3 w3 D bel=>?_
 have E3_1:=D.q 1
 replace F9:=D.o L9 F9
 replace F10:=D.o L10 F10
 replace F13:=D.o L13 F13
 replace F14:=D.o L14 F14
 replace B8:=D.k B8
 replace F_x11:=D.gr (RatN x.b.re) F_x11
 replace F_x12:=D.gr (RatN x.b.im) F_x12
 replace F_x15:=D.gr (RatN y.b.re) F_x15
 replace F_x16:=D.gr (RatN y.b.im) F_x16
 clear D
 refine wp_cond_false (by exact E3_1) ?_
 refine wp_skip ?_
 refine K17 _ _ ?_
 refine gd 11 (Amb Z0 W) fun _ K19=>?_
 refine .mz rfl 6 (V:=.slice (some ⟨b8,0,none⟩) 2 c8) rfl ?_
 refine .e rfl (V:=pt b8) (fun H=>x_ixs 4 (H.g 18 0) (H.c (.int .i64 0))) ?_
 refine .e rfl (V:=.agg #[pt b9,x11,x12,pt b10]) (fun H=>x_ldq (vs:=[pt b9,x11,x12,pt b10,pt b13,x15,x16,pt b14]) (us:=[pt b9,x11,x12,pt b10]) (H.g 19 1) (H.b B8) Q8) ?_
 refine .mz rfl 6 (V:=.slice (some ⟨b8,0,none⟩) 2 c8) rfl ?_
 refine .e rfl (V:=.pointer (some ⟨b8,4,none⟩)) (fun H=>x_ixs 4 (H.g 21 3) (H.c (.int .i64 1))) ?_
 refine .e rfl (V:=.agg #[pt b13,x15,x16,pt b14]) (fun H=>x_ldq (vs:=[pt b9,x11,x12,pt b10,pt b13,x15,x16,pt b14]) (us:=[pt b13,x15,x16,pt b14]) (H.g 22 4) (H.b B8) Q8) ?_
 refine .cR rfl [] Tryz.func161 (fun H=>⟨_,ar2 (H.g 20 2) (H.g 23 5),ivProd x y (RingP.mk (H.was _ [] (VP.at F9 L9)) (H.was _ [] F_x11) (H.was _ [] F_x12) (H.was _ [] (VP.at F10 L10))) (RingP.mk (H.was _ [] (VP.at F13 L13)) (H.was _ [] F_x15) (H.was _ [] F_x16) (H.was _ [] (VP.at F14 L14))) (by first | assumption | omega | (dsimp only at *; omega))⟩) ?_
 refine .cK rfl Tryz.func140 (fun H=>⟨_,ar1 (H.r 24 6),qSign _ (SV.any (H.a 6 rfl))⟩) ?_
 refine .e rfl (V:=.bool (((x.dot y).num.sign) == 0)) (fun H=>x_cmp (H.g 25 7) (H.c _)) ?_
 refine .mv rfl 8 ?_
 refine .mc rfl ?_
 refine .dk (fun u=>ciV x::ciV y::u1 0::u1 1::u 9::u 10::.slice (some ⟨b8,0,none⟩) 2 c8::.int .i64 0::.tuple #[.slice (some ⟨b8,0,none⟩) 2 c8,.int .i64 0]::ciV x::ciV y::.slice (some ⟨b6,0,none⟩) 2 2::.tuple #[.slice (some ⟨b8,0,none⟩) 2 c8,.int .i64 0]::.slice (some ⟨b8,0,none⟩) 2 c8::.int .i64 0::u3 0::u3 1::U::sq u 0 9 []) K19 bel fun u4 w4 D bel=>?_
 have E4_9:=D.q 9
 have E4_10:=D.q 10
 clear D
 refine wp_ret ?_
 refine ret_ok rfl (by exact results_two rfl (by exact E4_9) (by exact E4_10)) (RetV.mk ?_ bel)
 exact congrArg Ending.returned (rfl)
theorem ivOvO (c:Ci) (p0:ciOk (rci c) = true) :
  Calls Tryz.prog 31 #[ciV c] W (RetV (.tuple #[.agg #[.bool ((((mbcut c.over.nrm).a).re).a).n,.string ((((mbcut c.over.nrm).a).re).a).s,.bool ((((mbcut c.over.nrm).a).re).b).n,.string ((((mbcut c.over.nrm).a).re).b).s,.bool ((((mbcut c.over.nrm).a).im).a).n,.string ((((mbcut c.over.nrm).a).im).a).s,.bool ((((mbcut c.over.nrm).a).im).b).n,.string ((((mbcut c.over.nrm).a).im).b).s,.bool ((((mbcut c.over.nrm).b).re).a).n,.string ((((mbcut c.over.nrm).b).re).a).s,.bool ((((mbcut c.over.nrm).b).re).b).n,.string ((((mbcut c.over.nrm).b).re).b).s,.bool ((((mbcut c.over.nrm).b).im).a).n,.string ((((mbcut c.over.nrm).b).im).a).s,.bool ((((mbcut c.over.nrm).b).im).b).n,.string ((((mbcut c.over.nrm).b).im).b).s,.bool ((((mbcut c.over.nrm).c).re).a).n,.string ((((mbcut c.over.nrm).c).re).a).s,.bool ((((mbcut c.over.nrm).c).re).b).n,.string ((((mbcut c.over.nrm).c).re).b).s,.bool ((((mbcut c.over.nrm).c).im).a).n,.string ((((mbcut c.over.nrm).c).im).a).s,.bool ((((mbcut c.over.nrm).c).im).b).n,.string ((((mbcut c.over.nrm).c).im).b).s,.bool ((((mbcut c.over.nrm).d).re).a).n,.string ((((mbcut c.over.nrm).d).re).a).s,.bool ((((mbcut c.over.nrm).d).re).b).n,.string ((((mbcut c.over.nrm).d).re).b).s,.bool ((((mbcut c.over.nrm).d).im).a).n,.string ((((mbcut c.over.nrm).d).im).a).s,.bool ((((mbcut c.over.nrm).d).im).b).n,.string ((((mbcut c.over.nrm).d).im).b).s,.bool ((mbcut c.over.nrm).t)],.int .i64 (mberr c.over.nrm)]) W):=by
 have f1:=cifits_ht (ciOk_c p0).1
 have bel:=b0 W
 go_enter Tryz.func31,Tryz.ntmps31
 refine gs 3 (Amb Z0 W) fun _ K1=>?_
 refine .bx rfl (fun H=>H.v 0 (ciV c)) ?_
 refine .al rfl zMb ?_
 refine .mc rfl ?_
 refine .dk (fun u=>ciV c::sq u 0 3 (us 15)) K1 bel fun u1 w1 D bel=>?_
 obtain ⟨b2,E1_0,A2,B2⟩:=D.nw 0
 obtain ⟨b3,E1_1,A3,B3⟩:=D.nw 1
 have E1_2:=D.q 2
 have N2_3:=D.n2 0 1 E1_0 E1_1
 clear D
 refine gs 8 (Amb Z0 W) fun _ K4=>?_
 refine .lr rfl 1 E1_0 B2 ?_
 refine .cR rfl [] Tryz.func155 (fun H=>⟨_,ar1 (H.g 7 0),eWheelO _ (by first | assumption | omega | exact over_piv (ciOk_c p0).2.1 | (refine over_le ?_; omega) | (dsimp only at *; omega))⟩) ?_
 refine .mn rfl 1 [1] ?_
 refine Go2.fn (i:=3) rfl (G0 rfl) (.val 3 [1,2] (RingP c)) (fun u μ ρ H=>by have e6:=H.r 6 2; have h0:=(H.a 2 rfl); obtain ⟨x0,x1,h1,h2⟩:=h0; rw [h1] at e6; exact ⟨x0,by clear H; go_simp,SP.tupKeep (by decide) (by decide) h2.1⟩) ?_
 refine .e rfl (V:=.bool true) (fun H=>by have e6:=H.r 6 2; have h0:=(H.a 2 rfl); obtain ⟨x0,x1,h1,h2,h3⟩:=h0; rw [h1] at e6; have h3:x1 = .bool true:=h3; subst h3; clear H; go_simp) ?_
 refine .al rfl (#[.pointer none,.pointer none,.pointer none,.pointer none]) ?_
 refine Go2.storeOwn (i:=6) (m:=5) rfl rfl (.head _) (SP.cells 5 [3] (fun u=>#[((u 3).v.cells.getD 0 undef),((u 3).v.cells.getD 1 undef),((u 3).v.cells.getD 2 undef),((u 3).v.cells.getD 3 undef)]) 203 (by intro u u' h; simp [h 3 (by simp)])) (fun u μ ρ b H h0 hB hb=>?_) ?_
 · have e4:=H.r 4 5; have e9:=H.r 9 3
   rw [h0] at e4
   obtain ⟨x1,x2,x3,x4,h1,h2,h3,h4,h5⟩:=(H.a 3 rfl)
   have o1:=VP1.rat h2
   have o2:=VP1.ratn h3
   have o3:=VP1.ratn h4
   have o4:=VP1.rat h5
   rw [h1] at e9
   refine ⟨μ.setRow b #[x1,x2,x3,x4],ex_store_row 203 _ _ rfl e4 e9 hb (by kernel_rfl) rfl (by simp [o1,o2,o3,o4] <;> rfl),fun g=>⟨b,?_,hB,?_⟩,setRow_only _ _ _⟩
   · rw [upd_other _ _ (by decide)]; exact h0
   · rw [setRow_at hb]; try simp [upd,h1,Value.cells]
 refine .mv rfl 4 ?_
 refine .dk (fun u=>ciV c::sq u1 0 3 (u 5::u 7::u 2::u 0::u 1::u 3::u 4::us 8)) K4 bel fun u2 w2 D bel=>?_
 obtain ⟨b5,x6,x7,b8,E2_3,L5,L8,F5,F_x6,F_x7,F8⟩:=RingP.elim (D.rr 3)
 obtain ⟨b9,E2_5,A9,B9⟩:=(D.a 6 rfl)
 replace A9:=le2 D.le A9
 have E2_7:=D.q 7
 have N3_9:=D.n1 5 (lt_of B3) E2_5
 replace B3:=D.k B3
 simp only [Value.cells,E2_3,E2_5] at B9
 replace B9:w2.heap[b9]? = some (.cells #[pt b5,x6,x7,pt b8] 203 (0,0)):=B9
 clear D
 refine wp_seq_k fun _ K10=>?_
 refine gs 2 (Amb Z0 W) fun _ K11=>?_
 refine .mz rfl 5 E2_7 ?_
 refine .e rfl (V:=.bool false) (fun H=>x_not (H.g 11 0)) ?_
 refine .dk (fun u=>ciV c::sq u1 0 3 (u2 5::u2 7::u2 2::u2 0::u2 1::u2 3::u2 4::u 0::u 1::us 6)) K11 bel fun u3 w3 D bel=>?_
 have E3_1:=D.q 1
 replace B3:=D.k B3
 replace B9:=D.k B9
 replace F5:=D.o L5 F5
 replace F8:=D.o L8 F8
 replace F_x6:=D.gr (RatN c.b.re) F_x6
 replace F_x7:=D.gr (RatN c.b.im) F_x7
 clear D
 refine wp_cond_false (by exact E3_1) ?_
 refine wp_skip ?_
 refine K10 _ _ ?_
 refine gs1 7 (Amb Z0 W) 5 B3 fun _ K12=>?_
 refine .e rfl (fun H=>x_ldr (H.z 4 E2_5) (H.b1 B9 N3_9)) ?_
 refine .cR rfl [] Tryz.func143 (fun H=>⟨_,ar1 (H.g 14 0),iOver c (RingP.mk (H.was _ [] (VP.at F5 L5)) (H.was _ [] F_x6) (H.was _ [] F_x7) (H.was _ [] (VP.at F8 L8))) (by first | assumption | omega | exact over_piv (ciOk_c p0).2.1 | (refine over_le ?_; omega) | (dsimp only at *; omega))⟩) ?_
 refine .cK rfl Tryz.func145 (fun H=>⟨_,ar1 (H.r 15 1),mtTold c.over (SV.any (H.a 1 rfl)) (by first | assumption | omega | exact over_piv (ciOk_c p0).2.1 | (refine over_le ?_; omega) | (dsimp only at *; omega)) (by first | assumption | omega | exact over_piv (ciOk_c p0).2.1 | (refine over_le ?_; omega) | (dsimp only at *; omega))⟩) ?_
 refine .e rfl (V:=rmbV (mbcut c.over.nrm)) (fun H=>x_ex (H.g 16 2)) ?_
 refine .e rfl (V:=.int .i64 (mberr c.over.nrm)) (fun H=>x_ex (H.g 16 2)) ?_
 refine .s1 rfl B3 (fun H=>⟨H.z 2 E1_1,H.g 17 3⟩) ?_
 refine .mv rfl 4 ?_
 refine .d1 (fun u=>ciV c::u1 0::u1 1::u 6::u2 5::u2 7::u2 2::u2 0::u2 1::u2 3::u2 4::u3 0::u3 1::U::sq u 0 5 []) K12 bel A3 fun u4 w4 D bel=>?_
 have E4_6:=D.q 6
 replace B3:=D.ol 5
 clear D
 refine wp_ret ?_
 refine ret_ok rfl (by exact results_mix rfl (by exact E1_1) B3 Tryz.underlying44 rfl (by kernel_rfl) (by exact E4_6)) (RetV.mk ?_ bel)
 exact congrArg Ending.returned (rfl)
end Go.Proofs.YtcpjdjnaipbieaaGreat
namespace Go.Proofs.YtcpjdjnaipbieaaGreat
open Go.RowKit Rgn
theorem over_l2 {k:Ci} (h:ht k.a + ht k.b.re + ht k.b.im + ht k.c ≤ 40000):ht k.over.a.re + ht k.over.a.im + ht k.over.b.re + ht k.over.b.im + ht k.over.c.re + ht k.over.c.im + ht k.over.d.re + ht k.over.d.im ≤ 200000:=by
 have h1:=ht_neg k.b.re
 have h2:=ht_neg (-k.b.im)
 have h3:=ht_neg k.b.im
 have h4:=ht_neg k.c
 have h5:=ht_zero
 show ht (-k.b.re) + ht (- -k.b.im) + ht (-k.c) + ht (0:Rat) + ht k.a + ht (0:Rat) + ht k.b.re + ht k.b.im ≤ _
 omega
theorem send_le {m:Mb} {p:Pn} (h:ht m.a.re + ht m.a.im + ht m.b.re + ht m.b.im + ht m.c.re + ht m.c.im + ht m.d.re + ht m.d.im ≤ 200000) (hp:ht p.z.re + ht p.z.im ≤ 200000):ht (m.send p).z.re + ht (m.send p).z.im ≤ 67108864:=by
 have z0:=ht_zero
 have key:∀ a b:Cx,ht a.re + ht a.im ≤ 2000000 → ht b.re + ht b.im ≤ 2000000 → ht (a.div b).re + ht (a.div b).im ≤ 67108864:=by
  intro a b h1 h2
  have h3:=hc_div a b
  omega
 have h1:=hc_conj p.z
 have h2:=hc_mul m.a p.z
 have h3:=hc_mul m.c p.z
 have h4:=hc_mul m.a p.z.conj
 have h5:=hc_mul m.c p.z.conj
 have h6:=hc_add (m.a.mul p.z) m.b
 have h7:=hc_add (m.c.mul p.z) m.d
 have h8:=hc_add (m.a.mul p.z.conj) m.b
 have h9:=hc_add (m.c.mul p.z.conj) m.d
 have hput:ht (m.put p).1.re + ht (m.put p).1.im ≤ 2000000 ∧ ht (m.put p).2.re + ht (m.put p).2.im ≤ 2000000:=by
  cases e:(!p.inf) with
  | false =>
   rw [put_i e]
   show ht m.a.re + ht m.a.im ≤ _ ∧ ht m.c.re + ht m.c.im ≤ _
   omega
  | true=>cases t:m.t with
   | true =>
    rw [put_n1 e t]
    show ht ((m.a.mul p.z.conj).add m.b).re + ht ((m.a.mul p.z.conj).add m.b).im ≤ _ ∧ ht ((m.c.mul p.z.conj).add m.d).re + ht ((m.c.mul p.z.conj).add m.d).im ≤ _
    omega
   | false =>
    rw [put_n0 e t]
    show ht ((m.a.mul p.z).add m.b).re + ht ((m.a.mul p.z).add m.b).im ≤ _ ∧ ht ((m.c.mul p.z).add m.d).re + ht ((m.c.mul p.z).add m.d).im ≤ _
    omega
 unfold Mb.send
 split
 ·show ht (0:Rat) + ht (0:Rat) ≤ _
  omega
 ·exact key _ _ hput.1 hput.2
end Go.Proofs.YtcpjdjnaipbieaaGreat
