import Derived.Test.YtcpjdjnaipbieaaGreatP04
import Derived.RangeFuncBox
import Derived.RangeFuncLeaves
import Derived.RangeFuncNested
import Derived.Shelf.Abstract
import Derived.OwnWalkIn
import Derived.LoopNIn
import Derived.LoopIn
set_option linter.unusedVariables false
set_option linter.unusedSimpArgs false
namespace Go.Proofs.YtcpjdjnaipbieaaGreat
open Go.RowKit Rgn Go.Shelf Eng
attribute [local go_sem] Oper.semAt_some
def MRow (cur:Array Value) (off:Nat) (l:List RMb):Prop:=∀ i r,l[i]? = some r → ∀ k v,(rmbC r).toList[k]? = some v → cur[off + 33 * i + k]? = some v
theorem MRow.ext {cur:Array Value} {off:Nat} {l:List RMb} (h:MRow cur off l) {i:Nat} (hi:i < l.length):off + 33 * i + 33 ≤ cur.size ∧ cur.extract (off + 33 * i) (off + 33 * i + 33) = rmbC (l.getD i rzMb):=by
 have hr:l[i]? = some (l.getD i rzMb):=by
  rw [List.getD_eq_getElem?_getD,List.getElem?_eq_getElem hi]; rfl
 have hc:=h i _ hr
 generalize l.getD i rzMb = r at *
 have hlen:(rmbC r).toList.length = 33:=rfl
 have h7:=hc 32 _ rfl
 have hsz:off + 33 * i + 33 ≤ cur.size:=by
  have:=(Array.getElem?_eq_some_iff.1 h7).1
  omega
 refine ⟨hsz,?_⟩
 apply Array.ext
 ·simp; omega
 ·intro k hk1 hk2
  have hk:k < 33:=by simpa using hk2
  have h1:=hc k _ (List.getElem?_eq_getElem (by rw [hlen]; exact hk))
  rw [Array.getElem_extract]
  have h2:=(Array.getElem?_eq_some_iff.1 h1).2
  simpa using h2
theorem info_mob33:(Tryz.prog.info? 44).map (·.size) = some 33:=by kernel_rfl
def bmU {α:Type} (n:Nat) (el:Nat → α) (k:Nat):List α:=(List.range k).map fun t=>el (n - 1 - t)
theorem bmU_succ {α:Type} (n:Nat) (el:Nat → α) (k:Nat):bmU n el (k + 1) = bmU n el k ++ [el (n - 1 - k)]:=by simp [bmU,List.range_succ]
theorem bmU_length {α:Type} (n:Nat) (el:Nat → α) (k:Nat):(bmU n el k).length = k:=by simp [bmU]
def KpM (n₀ Bs:Nat) (A B:World):Prop:=Below n₀ A B ∧ B.heap[Bs]? = A.heap[Bs]?
theorem kpM_t {n₀ Bs:Nat} {A B C:World} (h:KpM n₀ Bs A B) (k:KpM n₀ Bs B C):KpM n₀ Bs A C:=⟨h.1.trans k.1,k.2.trans h.2⟩
theorem kpM_b {n₀ Bs:Nat} {w:World} (hn:n₀ ≤ w.heap.size) (hB:Bs < w.heap.size) (W:World) (l:Nat) (o o' : Obj) (hl:w.heap.size ≤ l) (h:W.heap[l]? = some o) (h1:o.isCells = false) (h2:o.isWalk = false):KpM n₀ Bs W (W.putObj l o') :=
 ⟨belowK_b hn W l o o' hl h h1 h2,World.putObj_heap_other (by omega)⟩
theorem wI_val {P:Program} {ops:Array Oper} {Q:Exit → Act → World → Prop} {n:Nat} {o:Oper} {rest:List Oper} {a:Act} {w:World} {v:Value} (hg:o.guard = none) (hd:noDef o = true) (hx:(execOp a.eval o).run P w = .ok (.value v) w) (h:wpListIn Fence.wide n P ops Q rest (a.put o.dst v) w):wpListIn Fence.wide n P ops Q (o :: rest) a w:=by
 refine wpListIn_plain hg fun K hK=>⟨fun _ _=>trivial,?_⟩
 have e:o.semAt Fence.wide.round a.eval = execOp a.eval o:=rfl
 rw [e,hx]
 exact hK _ _ h
theorem wI_yield {P:Program} {ops:Array Oper} {Q:Exit → Act → World → Prop} {n lp:Nat} {args:Array Value} {R:Ending → World → Prop} {o:Oper} {rest:List Oper} {a:Act} {w:World} (hg:o.guard = none) (hy:YieldAt Fence.wide (n - 1) P lp args w R)
  {x:Operand} {xs:Array Operand} {ats:Array TypeId} (ho:o.op = .call { callee:=.value x,args:=xs,argTypes:=ats }) (hx:a.eval x = .func (.yield lp) #[] #[]) (hxs:xs.map a.eval = args)
  (h:∀ e w', R e w' → ∃ v,e = .returned v ∧ wpListIn Fence.wide n P ops Q rest (a.put o.dst v) w'):wpListIn Fence.wide n P ops Q (o :: rest) a w:=by
 obtain ⟨fn,tmps,assign,body,h1,h2⟩:=hy
 refine wpListIn_plain hg fun K hK=>⟨fun _ _=>trivial,?_⟩
 have e:o.semAt Fence.wide.round a.eval = execOp a.eval o:=rfl
 have e2:(execOp a.eval o).run P w = .ok (.round lp fn tmps assign body) w:=by
  rw [← h1,← hxs]
  unfold execOp
  simp only [ho,resolve,hx,Deferred.ofValue]
  simp [invoke,Sem.run,go_sem]
 rw [e,e2]
 refine ⟨fun h0=>by simp [Fence.wide] at h0,h2.mono fun e w' hr=>?_⟩
 obtain ⟨v,rfl,hv⟩:=h e w' hr
 exact hK _ _ hv
theorem ex_index_ml {ρ:Operand → Value} {o:Oper} {w:World} {x y:Operand} (ho:o.op = .indexAddr 286 x y) {b f n c i:Nat} (hx:ρ x = .slice (some ⟨b,f,none⟩) n c) (hy:ρ y = .int .i64 (i:Int)) (h1:i < n) :
  (execOp ρ o).run Tryz.prog w = .ok (.value (.pointer (some ⟨b,f + 33 * i,none⟩))) w:=by
 obtain ⟨q,hq,hz⟩:∃ q,Tryz.prog.info? 44 = some q ∧ q.size = 33:=by
  have:=info_mob33
  cases h:Tryz.prog.info? 44 with
  | none=>rw [h] at this; cases this
  | some i=>rw [h] at this; exact ⟨i,rfl,Option.some.inj this⟩
 unfold execOp
 simp only [ho,hx,hy]
 have he:Tryz.prog.elem 286 = 44:=by kernel_rfl
 have e:=run_indexAt_slice (P:=Tryz.prog) (w:=w) 286 ⟨b,f,none⟩ n c .i64 (i:Int) (by rw [he]; exact Tryz.underlying286)
 rw [if_pos ⟨by omega,by omega⟩,he] at e
 simp [e,sizeOf,typeInfo,hq,hz,Result.andThen,Addr.add_lit,Nat.mul_comm]
theorem ex_load_ml {ρ:Operand → Value} {o:Oper} {w:World} {x:Operand} {b off i:Nat} {l:List RMb} {cur:Array Value} {T:TypeId} {fr:Nat × Nat} (ho:o.op = .load 44 x) (hx:ρ x = .pointer (some ⟨b,off + 33 * i,none⟩)) (hB:w.heap[b]? = some (.cells cur T fr)) (hR:MRow cur off l) (hi:i < l.length) :
  (execOp ρ o).run Tryz.prog w = .ok (.value (rmbV (l.getD i rzMb))) w:=by
 obtain ⟨h1,h2⟩:=hR.ext hi
 exact ex_load_part 44 x ho hx hB Tryz.underlying44 rfl 33 info_mob33 h1 h2
set_option maxRecDepth 100000 in
set_option maxHeartbeats 2000000 in
theorem bm1_in {α:Type} (encs:α → Array Value) (el:Nat → α) (n:Nat) (hn:1 ≤ n) (lp Bs n₀ b off cap:Nat) (l:List RMb) (cur:Array Value) {T:TypeId} (fr:Nat × Nat) (hel:∀ j,j < l.length → encs (el j) = #[.int .i64 (j:Int),rmbV (l.getD j rzMb)]) (hne:l.length ≠ 0) (hlen:l.length ≤ 1099511627776) (hcap:l.length ≤ cap) (hcap' : cap ≤ 9223372036854775807) (hb:b < n₀) (J Jx:List α → World → Prop)
  (hY:∀ pre x W,J pre W → pre.length < l.length → YieldAt Fence.wide (n - 1) Tryz.prog lp (encs x) W fun e W' =>
   (e = .returned (.bool true) ∧ J (pre ++ [x]) W' ∧ KpM n₀ Bs W W') ∨ (e = .returned (.bool false) ∧ Jx (pre ++ [x]) W'))
  (W:World) (hBs:W.heap[Bs]? = some (.cells #[.slice (some ⟨b,off,none⟩) l.length cap] 286 (0,0))) (hB:W.heap[b]? = some (.cells cur T fr)) (hR:MRow cur off l) (h0:J [] W) :
  CallsIn Fence.wide n Tryz.prog 269 #[.func (.yield lp) #[] #[],.pointer (some ⟨Bs,0,none⟩)] W fun e W' => (∃ v,e = .returned v) ∧
   ((∃ ys,ys = bmU l.length el l.length ∧ J ys W') ∨ (∃ pre,(∃ k,k ≤ l.length ∧ pre = bmU l.length el k) ∧ Jx pre W')):=by
 refine callsIn_of_wp Tryz.func269 rfl trivial ?_ rfl
 simp only [Tryz.ntmps269,List.size_toArray,List.length_cons,List.length_nil,Nat.reduceAdd,Nat.reduceSub,Array.replicate_succ,Array.replicate_zero,List.push_toArray,List.append_toArray,List.nil_append,List.cons_append]
 have hw1:IntKind.i64.wrap ((l.length:Int) - 1) = (l.length:Int) - 1:=IntWalk.i64_in _ (by omega)
 have hBc:W.cell? ⟨Bs,0,none⟩ = some (.slice (some ⟨b,off,none⟩) l.length cap):=cell_of (off:=0) hBs rfl
 gi_wp2
 gi_loopw [3] (fun i wr=>∃ k:Nat,k ≤ l.length ∧ i = .int .i64 ((l.length:Int) - 1 - k) ∧ J (bmU l.length el k) wr ∧ KpM n₀ Bs W wr) (fun i _=>((intOf i) + 1).toNat)
 case atStart=>exact ⟨0,Nat.zero_le _,by simp,h0,Below.refl _ _,rfl⟩
 case round =>
  obtain ⟨k,hk,rfl,hJs,hnx⟩:=hrel
  have hcb:wr.cell? ⟨Bs,0,none⟩ = some (.slice (some ⟨b,off,none⟩) l.length cap):=cell_of (off:=0) (hnx.2.trans hBs) rfl
  have hbb:wr.heap[b]? = some (.cells cur T fr):=(hnx.1.block b hb).trans hB
  by_cases hlt:k < l.length
  ·have hy:=hY _ (el (l.length - 1 - k)) wr hJs (by rw [bmU_length]; exact hlt)
   rw [hel _ (by omega)] at hy
   obtain ⟨j,hj⟩:∃ j,j = l.length - 1 - k:=⟨_,rfl⟩
   have hjl:j < l.length:=by omega
   have hjI:(l.length:Int) - 1 - (k:Int) = (j:Int):=by omega
   have hbs:=bmU_succ l.length el k
   rw [← hj] at hy hbs
   rw [hjI]
   clear hjI
   have hjk:(j:Int) - 1 = (l.length:Int) - 1 - ((k + 1:Nat):Int):=by omega
   have hw2:IntKind.i64.wrap ((j:Int) - 1) = (j:Int) - 1:=IntWalk.i64_in _ (by omega)
   clear hj
   refine wpIn_seq_k fun _ K1=>?_
   refine wpIn_seq_k fun _ K2=>?_
   refine wpIn_region_list ?_
   refine wI_val rfl rfl (x_mv rfl) ?_
   refine wI_val rfl rfl (v:=.bool true) (x_cm (c:=decide ((0:Int) ≤ (j:Int))) (d:=true) rfl rfl (decide_eq_true (by omega))) ?_
   refine K2 _ _ ?_
   refine wpIn_cond_true rfl (wpIn_skip (K1 _ _ ?_))
   refine wpIn_seq_k fun _ K3=>wpIn_block (wpIn_seq_k fun _ K4=>wpIn_region_list ?_)
   refine wI_val rfl rfl (x_mv rfl) ?_
   refine wI_val rfl rfl (x_mv rfl) ?_
   refine wI_val rfl rfl (v:=.slice (some ⟨b,off,none⟩) l.length cap) (x_ldc (g:=Bs) (off:=0) rfl (hnx.2.trans hBs)) ?_
   refine wI_val rfl rfl (x_mv rfl) ?_
   refine wI_val rfl rfl (v:=.pointer (some ⟨b,off + 33 * j,none⟩)) (ex_index_ml (f:=off) (n:=l.length) (c:=cap) (i:=j) (b:=b) rfl rfl rfl hjl) ?_
   refine wI_val rfl rfl (ex_load_ml (i:=j) rfl (by simp [Act.eval,Act.put]) hbb hR hjl) ?_
   refine wI_yield rfl hy rfl (by simp [Act.eval,Act.put]) (by simp [Act.eval,Act.put]) ?_
   rintro e W3 (⟨rfl,hJ3,hk3⟩ | ⟨rfl,hJx3⟩)
   ·refine ⟨_,rfl,?_⟩
    gi_wp2
    go_roundw
    case rel=>exact ⟨k + 1,by omega,by first | rfl | (congr 1; omega) | rw [hjk],by rw [hbs]; exact hJ3,kpM_t hnx hk3⟩
    case measure=>simp [intOf]; omega
   ·refine ⟨_,rfl,?_⟩
    gi_wp2
    refine bodyPost_ret (results_none rfl _ _ _) rfl ?_
    exact ⟨⟨_,rfl⟩,.inr ⟨_,⟨k + 1,by omega,hbs.symm⟩,hJx3⟩⟩
  ·have hke:k = l.length:=by omega
   subst hke
   have hjI:(l.length:Int) - 1 - (l.length:Int) = -1:=by omega
   rw [hjI]
   gi_wp2
   go_end0
   exact ⟨⟨_,rfl⟩,.inl ⟨_,rfl,hJs⟩⟩
set_option maxHeartbeats 1000000 in
theorem bm_in (p:Option Addr) (len cap:Nat) (w:World) :
  Calls Tryz.prog 218 #[.slice p len cap] w fun e w' => e = .returned (.func (.func 269) #[] #[.pointer (some ⟨w.heap.size,0,none⟩)]) ∧ w' = w.alloc (.cells #[.slice p len cap] 286):=by
 go_enter Tryz.func218,Tryz.ntmps218
 go_wp2
 go_ret
 exact ⟨rfl,rfl⟩
theorem bm_stops {α:Type} (encs:α → Array Value) (el:Nat → α) (n:Nat) (hn:1 ≤ n) (Bs n₀ b off cap:Nat) (l:List RMb) (cur:Array Value) {T:TypeId} (fr:Nat × Nat) (hel:∀ j,j < l.length → encs (el j) = #[.int .i64 (j:Int),rmbV (l.getD j rzMb)]) (hne:l.length ≠ 0) (hlen:l.length ≤ 1099511627776) (hcap:l.length ≤ cap) (hcap' : cap ≤ 9223372036854775807) (hb:b < n₀) (w:World) (hn₀:n₀ ≤ w.heap.size)
  (hc:w.heap[Bs]? = some (.cells #[.slice (some ⟨b,off,none⟩) l.length cap] 286 (0,0))) (hB:w.heap[b]? = some (.cells cur T fr)) (hR:MRow cur off l) :
  SeqStopsK Fence.wide n Tryz.prog 269 #[.pointer (some ⟨Bs,0,none⟩)] encs (KpM n₀ Bs) (fun ys=>ys = bmU l.length el l.length) (fun pre=>∃ k,k ≤ l.length ∧ pre = bmU l.length el k) l.length w:=fun lp J Jx W hW _ _ hY h0=>by
 have hc' := (hW.block Bs (lt_of hc)).trans hc
 have hB' := (hW.block b (by omega)).trans hB
 exact bm1_in encs el n hn lp Bs n₀ b off cap l cur fr hel hne hlen hcap hcap' hb J Jx hY W hc' hB' hR h0
end Go.Proofs.YtcpjdjnaipbieaaGreat
namespace Go.Proofs.YtcpjdjnaipbieaaGreat
open Go.RowKit Rgn
section
variable {P:Program} {ρ:Operand → Value} {o:Oper} {w:World} {x y:Operand}
theorem x_pnE {t r:TypeId} {b:Nat} (hx:ρ x = pt b) (hy:ρ y = .pointer none) (ho:o.op = .binOp .eql t x y r:=by rfl) (he:(Op.equal t (pt b) (.pointer none)).run P w = .ok false w:=by kernel_rfl):(execOp ρ o).run P w = .ok (.value (.bool false)) w:=by
 unfold execOp; simp [ho,hx,hy,eqGuard,binOp,he,Result.andThen]
theorem x_pnN {t r:TypeId} {b:Nat} (hx:ρ x = pt b) (hy:ρ y = .pointer none) (ho:o.op = .binOp .neq t x y r:=by rfl) (he:(Op.equal t (pt b) (.pointer none)).run P w = .ok false w:=by kernel_rfl):(execOp ρ o).run P w = .ok (.value (.bool true)) w:=by
 unfold execOp; simp [ho,hx,hy,eqGuard,binOp,he,Result.andThen]
end
theorem eFormed {W:World} (r:RW):Calls Tryz.prog 256 #[.agg #[.bool r.n,.string r.s]] W (RetV (.bool (wformed r)) W):=by
 obtain ⟨n,⟨⟨l⟩⟩⟩:=r
 have hb:Below W.heap.size W (W.alloc (.cells #[.bool n,.string ⟨⟨l⟩⟩] 23)):=Below.alloc (Below.refl _ _) (Nat.le_refl _) _
 cases l with
 | nil =>
  go_enter Tryz.func256,Tryz.ntmps256
  go_wp2_with fail
  refine ret_ok rfl (by exact results_tmp' rfl rfl) (RetV.mk ?_ hb)
  rfl
 | cons c t =>
  go_enter Tryz.func256,Tryz.ntmps256
  go_wp2_with fail
  refine ret_ok rfl (by exact results_tmp' rfl rfl) (RetV.mk ?_ hb)
  refine congrArg (fun b=>Ending.returned (.bool b)) ?_
  show ((c.toNat:Int) != 0) = (c != 0)
  by_cases h:c = 0
  ·subst h; rfl
  ·have h2:c.toNat ≠ 0:=fun e=>h (UInt8.toNat_inj.1 e)
   rw [bne_iff_ne.2 h,bne_iff_ne]; omega
theorem eRatN {S:Nat → Prop} {W:World}:Calls Tryz.prog 236 #[.pointer none] W (Ret (RatP 0) S W):=by
 go_enter Tryz.func236,Tryz.ntmps236
 go_wp2_with fail
 refine ret_ok rfl (by exact results_tmp' rfl rfl) ⟨_,rfl,⟨_,rfl,.inr (Nat.le_refl _),.inr ⟨rfl,heap_alloc_new W _⟩⟩,Below.alloc (Below.refl _ _) (Nat.le_refl _) _⟩
theorem ecut_yes {q:Rat} (h:fits (rf q) = true):Value.tuple #[.agg #[.bool (decide (q.num.sign < 0)),.string (bS q.num.natAbs),.bool false,.string (bS (q.den:Int).natAbs)],.int .i64 0] = .tuple #[rfV (fcut q),.int .i64 (ferr q)]:=by
 rw [sign_lt]
 refine Eq.trans ?_ (fcut_yes h)
 rw [decide_eq_false (show ¬ (q.den:Int) < 0 by omega)]
theorem den_nn (x:Rat):decide ((x.den:Int) < 0) = false:=decide_eq_false (by omega)
theorem den_na (x:Rat):decide ((x.den:Int).natAbs = 0) = false:=decide_eq_false (by have:=x.den_pos; omega)
theorem fits_two {x:Rat} (h:fits (rf x) = true):(bS x.num.natAbs).size ≤ 1024 ∧ (bS (x.den:Int).natAbs).size ≤ 1024:=by
 unfold fits at h
 rw [Bool.and_eq_true,decide_eq_true_eq,decide_eq_true_eq] at h
 exact h
theorem fits_num {x:Rat} (h:fits (rf x) = true):decide (1024 < (((bS x.num.natAbs).size:Nat):Int)) = false:=decide_eq_false (by have:=(fits_two h).1; omega)
theorem fits_den {x:Rat} (h:fits (rf x) = true):decide (1024 < (((bS (x.den:Int).natAbs).size:Nat):Int)) = false:=decide_eq_false (by have:=(fits_two h).2; omega)
theorem icmp_self (x:Int):icmp x x = 0:=by unfold icmp; simp
theorem back_num (x:Rat):((icmp ((Rat.divInt x.num (x.den:Int)).num) x.num) != 0) = false:=by rw [Rat.num_divInt_den,icmp_self]; rfl
theorem back_den (x:Rat):((icmp ((Rat.divInt x.num (x.den:Int)).den:Int) (x.den:Int)) != 0) = false:=by rw [Rat.num_divInt_den,icmp_self]; rfl
theorem bS_len (n:Nat):(bS n).size = (bytesOf n).length:=by show (bytesOf n).toArray.size = _; simp
theorem efits_le {q:Rat} (h:fits (rf q) = true):ht q ≤ 8200:=by
 have h0:=fits_two h
 have h1:=hi_bytes q.num
 have h2:=hi_bytes (q.den:Int)
 have h3:(rw q.num).s.size ≤ 1024:=h0.1
 have h4:(rw (q.den:Int)).s.size ≤ 1024:=h0.2
 have h5:hi (q.den:Int) = bl q.den + 1:=by unfold hi; rw [Int.natAbs_natCast]
 have h6:hi q.num = bl q.num.natAbs + 1:=rfl
 have h7:ht q = max (bl q.num.natAbs) (bl q.den) + 1:=rfl
 omega
theorem divInt_one (x:Int):Rat.divInt x 1 = (x:Rat):=by
 have h:=Rat.num_divInt_den (x:Rat)
 rw [Rat.num_intCast,Rat.den_intCast] at h
 exact h
theorem num_int (m n:Int):(⟨Rat.divInt m 1,Rat.divInt n 1⟩:Cx) = Cx.ofInt m n:=Cx.ext' (divInt_one m) (divInt_one n)
end Go.Proofs.YtcpjdjnaipbieaaGreat
namespace Go.Proofs.YtcpjdjnaipbieaaGreat
open Go.RowKit Rgn
set_option maxHeartbeats 4000000
set_option maxRecDepth 100000
variable {S:Nat → Prop} {W:World}
theorem eRatR {v0:Value} (x:Rat) (t0:(RatP x).p S v0 W) :
  Calls Tryz.prog 236 #[v0] W (Ret (RatP x) S W):=by
 obtain ⟨b1,rfl,L1,F1⟩:=RatP.elim t0
 replace L1:Amb S W b1:=.inl L1
 have bel:=b0 W
 go_enter Tryz.func236,Tryz.ntmps236
 refine gs 1 (Amb S W) fun _ K2=>?_
 refine .mc rfl ?_
 refine .dk (fun u=>pt b1::U::u 0::us 4) K2 bel fun u1 w1 D bel=>?_
 have E1_0:=D.q 0
 replace F1:=D.o L1 F1
 clear D
 refine wp_seq_k fun _ K3=>?_
 refine gs 2 (Amb S W) fun _ K4=>?_
 refine .mz rfl 0 (V:=pt b1) rfl ?_
 refine .e rfl (V:=.bool false) (fun H=>x_pnE (H.g 3 0) (H.c _)) ?_
 refine .dk (fun u=>pt b1::U::u1 0::u 0::u 1::U::U::[]) K4 bel fun u2 w2 D bel=>?_
 have E2_1:=D.q 1
 replace F1:=D.o L1 F1
 clear D
 refine wp_cond_false (by exact E2_1) ?_
 refine wp_skip ?_
 refine K3 _ _ ?_
 refine gs 2 (Amb S W) fun _ K5=>?_
 refine .mz rfl 0 (V:=pt b1) rfl ?_
 refine .mv rfl 0 ?_
 refine .dk (fun u=>pt b1::U::u 1::u2 0::u2 1::U::u 0::[]) K5 bel fun u3 w3 D bel=>?_
 have E3_1:=D.q 1
 replace F1:=D.o L1 F1
 clear D
 refine wp_ret ?_
 refine ret_ok rfl (by exact results_tmp' rfl (by exact E3_1)) ⟨_,rfl,?_,bel⟩
 exact (VP.at F1 L1)
end Go.Proofs.YtcpjdjnaipbieaaGreat
namespace Go.Proofs.YtcpjdjnaipbieaaGreat
open Go.RowKit Rgn
theorem eRat {S:Nat → Prop} {W:World} {v0:Value} (x:Rat) (t0:(RatN x).p S v0 W):Calls Tryz.prog 236 #[v0] W (Ret (RatP x) S W):=by
 rcases t0 with ⟨rfl,rfl⟩ | t0
 ·exact eRatN
 ·exact eRatR x t0
end Go.Proofs.YtcpjdjnaipbieaaGreat
namespace Go.Proofs.YtcpjdjnaipbieaaGreat
open Go.RowKit Rgn Eng
set_option maxHeartbeats 8000000
set_option maxRecDepth 100000
variable {S:Nat → Prop} {W:World}
theorem eMul {v0 v1:Value} (x:Rat) (y:Rat) (t0:(RatN x).p S v0 W) (t1:(RatN y).p S v1 W) (p0:ht x + ht y ≤ 68719476736):Calls Tryz.prog 237 #[v0,v1] W (Ret (RatP (x * y)) S W):=by
 refine Run.goP (S:=S) ((Pack.nil.s spRatN t0).s spRatN t1) Tryz.func237 rfl ?_
 refine Run.cR spRat (fun _ _ _ H=>eRat x (H.f 0)) ?_
 refine Run.cR spRat (fun _ _ _ H=>eRat y (H.f 1)) ?_
 refine Run.cO 0 softRat (fun _ _ _ H=>qMul x y (RatP.blk (H.oz 0)) (anyV (H.f 2)) (anyV (H.f 3)) p0) ?_
 exact Run.rR (fun _ _ _ H=>H.s 0)
theorem eParts {v0:Value} (x:Cx) (t0:(NumP x).p S v0 W):Calls Tryz.prog 139 #[v0] W (Ret (VP.tup (RatP x.re) (RatP x.im)) S W):=by
 refine Run.goP (S:=S) (Pack.nil.s spNum t0) Tryz.func139 rfl ?_
 refine Run.dr ?_
 refine RunD.cR spRat (fun _ _ _ H=>eRat x.re (H.f 0)) ?_
 refine RunD.cR spRat (fun _ _ _ H=>eRat x.im (H.f 1)) ?_
 refine RunD.en ?_
 exact Run.rR (fun _ _ _ H=>⟨_,_,rfl,(H.f 2),(H.f 3)⟩)
theorem eZero {v0:Value} (x:Cx) (t0:(NumP x).p S v0 W):Calls Tryz.prog 134 #[v0] W (RetV (.bool x.zero) W):=by
 refine Run.goP (S:=S) (Pack.nil.s spNum t0) Tryz.func134 rfl ?_
 refine Run.cR spRat (fun _ _ _ H=>eRat x.re (H.f 0)) ?_
 refine Run.cV [.int .i64 x.re.num.sign] kb (fun _ _ _ H=>qSign x.re (H.f 2)) ?_
 refine Run.ic x.re.num.sign 0 (x.re.num.sign == 0) ?_
 refine (Bool.eq_false_or_eq_true (x.re.num.sign == 0)).elim (fun c1=>?_) (fun c1=>?_)
 · refine Run.kn c1 ?_
   refine Run.cR spRat (fun _ _ _ H=>eRat x.im (H.f 1)) ?_
   refine Run.cV [.int .i64 x.im.num.sign] kb (fun _ _ _ H=>qSign x.im (H.f 3)) ?_
   refine Run.ic x.im.num.sign 0 (x.im.num.sign == 0) ?_
   exact Run.rV (zero_T c1)
 · refine Run.kn c1 ?_
   exact Run.rV (zero_F c1)
theorem eAdd {v0 v1:Value} (x:Cx) (y:Cx) (t0:(NumP x).p S v0 W) (t1:(NumP y).p S v1 W) (p0:ht x.re + ht x.im + ht y.re + ht y.im ≤ 17179869184):Calls Tryz.prog 177 #[v0,v1] W (Ret (NumP (x.add y)) S W):=by
 refine Run.goP (S:=S) ((Pack.nil.s spNum t0).s spNum t1) Tryz.func177 rfl ?_
 refine Run.dr ?_
 refine RunD.cR spRat (fun _ _ _ H=>eRat x.re (H.f 0)) ?_
 refine RunD.cR spRat (fun _ _ _ H=>eRat y.re (H.f 2)) ?_
 refine RunD.cO 3 softRat (fun _ _ _ H=>qAdd x.re y.re (RatP.blk (H.oz 3)) (anyV (H.f 4)) (anyV (H.f 5)) (by omega)) ?_
 refine RunD.cR spRat (fun _ _ _ H=>eRat x.im (H.f 1)) ?_
 refine RunD.cR spRat (fun _ _ _ H=>eRat y.im (H.f 3)) ?_
 refine RunD.cO 4 softRat (fun _ _ _ H=>qAdd x.im y.im (RatP.blk (H.oz 4)) (anyV (H.f 7)) (anyV (H.f 8)) (by omega)) ?_
 refine RunD.en ?_
 exact Run.rR (fun _ _ _ H=>NumP.mk (RatP.n (H.s 3)) (RatP.n (H.s 4)))
theorem eSub {v0 v1:Value} (x:Cx) (y:Cx) (t0:(NumP x).p S v0 W) (t1:(NumP y).p S v1 W) (p0:ht x.re + ht x.im + ht y.re + ht y.im ≤ 17179869184):Calls Tryz.prog 135 #[v0,v1] W (Ret (NumP (x.sub y)) S W):=by
 refine Run.goP (S:=S) ((Pack.nil.s spNum t0).s spNum t1) Tryz.func135 rfl ?_
 refine Run.dr ?_
 refine RunD.cR spRat (fun _ _ _ H=>eRat x.re (H.f 0)) ?_
 refine RunD.cR spRat (fun _ _ _ H=>eRat y.re (H.f 2)) ?_
 refine RunD.cO 3 softRat (fun _ _ _ H=>qSub x.re y.re (RatP.blk (H.oz 3)) (anyV (H.f 4)) (anyV (H.f 5)) (by omega)) ?_
 refine RunD.cR spRat (fun _ _ _ H=>eRat x.im (H.f 1)) ?_
 refine RunD.cR spRat (fun _ _ _ H=>eRat y.im (H.f 3)) ?_
 refine RunD.cO 4 softRat (fun _ _ _ H=>qSub x.im y.im (RatP.blk (H.oz 4)) (anyV (H.f 7)) (anyV (H.f 8)) (by omega)) ?_
 refine RunD.en ?_
 exact Run.rR (fun _ _ _ H=>NumP.mk (RatP.n (H.s 3)) (RatP.n (H.s 4)))
theorem eNMul {v0 v1:Value} (x:Cx) (y:Cx) (t0:(NumP x).p S v0 W) (t1:(NumP y).p S v1 W) (p0:ht x.re + ht x.im + ht y.re + ht y.im ≤ 17179869184):Calls Tryz.prog 137 #[v0,v1] W (Ret (NumP (x.mul y)) S W):=by
 have h1:=ht_mul x.re y.re
 have h2:=ht_mul x.im y.im
 have h3:=ht_mul x.re y.im
 have h4:=ht_mul x.im y.re
 refine Run.goP (S:=S) ((Pack.nil.s spNum t0).s spNum t1) Tryz.func137 rfl ?_
 refine Run.dr ?_
 refine RunD.cR spRat (fun _ _ _ H=>eMul x.re y.re (H.f 0) (H.f 2) (by omega)) ?_
 refine RunD.cR spRat (fun _ _ _ H=>eMul x.im y.im (H.f 1) (H.f 3) (by omega)) ?_
 refine RunD.cO 3 softRat (fun _ _ _ H=>qSub (x.re * y.re) (x.im * y.im) (RatP.blk (H.oz 3)) (anyV (H.f 4)) (anyV (H.f 5)) (by omega)) ?_
 refine RunD.cR spRat (fun _ _ _ H=>eMul x.re y.im (H.f 0) (H.f 3) (by omega)) ?_
 refine RunD.cR spRat (fun _ _ _ H=>eMul x.im y.re (H.f 1) (H.f 2) (by omega)) ?_
 refine RunD.cO 4 softRat (fun _ _ _ H=>qAdd (x.re * y.im) (x.im * y.re) (RatP.blk (H.oz 4)) (anyV (H.f 7)) (anyV (H.f 8)) (by omega)) ?_
 refine RunD.en ?_
 exact Run.rR (fun _ _ _ H=>NumP.mk (RatP.n (H.s 3)) (RatP.n (H.s 4)))
theorem eScale {v0 v1:Value} (x:Cx) (r:Rat) (t0:(NumP x).p S v0 W) (t1:(RatN r).p S v1 W) (p0:ht x.re + ht x.im + ht r ≤ 34359738368):Calls Tryz.prog 200 #[v0,v1] W (Ret (NumP (x.scale r)) S W):=by
 refine Run.goP (S:=S) ((Pack.nil.s spNum t0).s spRatN t1) Tryz.func200 rfl ?_
 refine Run.dr ?_
 refine RunD.cR spRat (fun _ _ _ H=>eMul x.re r (H.f 0) (H.f 2) (by omega)) ?_
 refine RunD.cR spRat (fun _ _ _ H=>eMul x.im r (H.f 1) (H.f 2) (by omega)) ?_
 refine RunD.en ?_
 exact Run.rR (fun _ _ _ H=>NumP.mk (RatP.n (H.f 3)) (RatP.n (H.f 4)))
theorem eNorm {v0:Value} (x:Cx) (t0:(NumP x).p S v0 W) (p0:ht x.re + ht x.im ≤ 8589934592):Calls Tryz.prog 201 #[v0] W (Ret (RatP x.norm) S W):=by
 have h1:=ht_mul x.re x.re
 have h2:=ht_mul x.im x.im
 refine Run.goP (S:=S) (Pack.nil.s spNum t0) Tryz.func201 rfl ?_
 refine Run.dr ?_
 refine RunD.cR spRat (fun _ _ _ H=>eMul x.re x.re (H.f 0) (H.f 0) (by omega)) ?_
 refine RunD.cR spRat (fun _ _ _ H=>eMul x.im x.im (H.f 1) (H.f 1) (by omega)) ?_
 refine RunD.cO 1 softRat (fun _ _ _ H=>qAdd (x.re * x.re) (x.im * x.im) (RatP.blk (H.oz 1)) (anyV (H.f 2)) (anyV (H.f 3)) (by omega)) ?_
 refine RunD.en ?_
 exact Run.rR (fun _ _ _ H=>H.s 1)
theorem eConj {v0:Value} (x:Cx) (t0:(NumP x).p S v0 W) (p0:ht x.re + ht x.im ≤ 8589934592):Calls Tryz.prog 136 #[v0] W (Ret (NumP x.conj) S W):=by
 refine Run.goP (S:=S) (Pack.nil.s spNum t0) Tryz.func136 rfl ?_
 refine Run.dr ?_
 refine RunD.cR spRat (fun _ _ _ H=>eRat x.re (H.f 0)) ?_
 refine RunD.cR spRat (fun _ _ _ H=>eRat x.im (H.f 1)) ?_
 refine RunD.cO 2 softRat (fun _ _ _ H=>qNeg x.im (RatP.blk (H.oz 2)) (anyV (H.f 3)) (by omega)) ?_
 refine RunD.en ?_
 exact Run.rR (fun _ _ _ H=>NumP.mk (RatP.n (H.f 2)) (RatP.n (H.s 2)))
theorem eInt (m:Int) (n:Int) (p0:-9223372036854775808 ≤ m) (p1:m ≤ 9223372036854775807) (p2:-9223372036854775808 ≤ n) (p3:n ≤ 9223372036854775807):Calls Tryz.prog 133 #[.int .i64 m,.int .i64 n] W (Ret (NumP (Cx.ofInt m n)) S W):=by
 refine Run.goP (S:=S) ((Pack.nil.k (.int .i64 m) [.int .i64 m] kb).k (.int .i64 n) [.int .i64 n] kb) Tryz.func133 rfl ?_
 refine Run.cR spRat (fun _ _ _ H=>qNewRat m 1 p0 p1 (by decide) (by decide) (by decide)) ?_
 refine Run.cR spRat (fun _ _ _ H=>qNewRat n 1 p2 p3 (by decide) (by decide) (by decide)) ?_
 exact Run.rR (fun _ _ _ H=>VPe (φ:=NumP) (num_int m n) (NumP.mk (RatP.n (H.f 0)) (RatP.n (H.f 1))))
end Go.Proofs.YtcpjdjnaipbieaaGreat
namespace Go.Proofs.YtcpjdjnaipbieaaGreat
open Go.RowKit Rgn
set_option maxHeartbeats 4000000
set_option maxRecDepth 100000
variable {S:Nat → Prop} {W:World}
theorem eFrac {v0:Value} (x:Rat) (t0:(RatN x).p S v0 W) (p0:ht x ≤ 68719476736) :
  Calls Tryz.prog 213 #[v0] W (RetV (.tuple #[.agg #[.bool (fcut x).a.n,.string (fcut x).a.s,.bool (fcut x).b.n,.string (fcut x).b.s],.int .i64 (ferr x)]) W):=by
 have F_v0:(RatN x).p (Amb S W) v0 W:=(RatN x).mono (fun _ _ h=>.inl h) t0
 have n0:=hi_num x
 have n2:=hi_den x
 have bel:=b0 W
 go_enter Tryz.func213,Tryz.ntmps213
 refine gs 2 (Amb S W) fun _ K1=>?_
 refine .al rfl zF ?_
 refine .mc rfl ?_
 refine .dk (fun u=>v0::U::u 0::u 1::us 29) K1 bel fun u1 w1 D bel=>?_
 obtain ⟨b2,E1_0,A2,B2⟩:=D.nw 0
 have E1_1:=D.q 1
 replace F_v0:=D.gr (RatN x) F_v0
 clear D
 refine wp_seq_k fun _ K3=>?_
 refine wp_region_list ?_
 refine wpT_val rfl (ex_move rfl) ?_
 refine wpT_callR (args:=#[v0]) (φ:=(RatP x)) (S:=Amb S W) rfl (ex_call rfl rfl Tryz.func236 (by kernel_rfl) (by kernel_rfl) (by simp only [List.map_toArray,List.map_cons,List.map_nil]; rfl)) (eRat (x:=x) F_v0 ) fun vw4 w4 fw4 ow4=>?_
 obtain ⟨b5,rfl,L5,F5⟩:=RatP.elim fw4
 replace L5:Amb S W b5:=L5.elim id (fun h=>.inr (Nat.le_trans bel.size h))
 replace B2:=(ow4.block b2 (lt_of B2)).trans B2
 replace F_v0:=(RatN x).grow (Rgn.Below.growS ow4 (Nat.le_refl _) _) F_v0
 replace bel:=bel.trans (ow4.mono bel.size)
 refine wpT_val rfl (ex_assign rfl) ?_
 refine wpList_nil ?_
 show _
 refine K3 _ _ ?_
 refine gs 8 (Amb S W) fun _ K6=>?_
 refine .mz rfl 0 (V:=pt b5) rfl ?_
 refine .cR rfl [] Tryz.func258 (fun H=>⟨_,ar1 (H.g 8 0),qNum _ (H.was _ [] (VP.at F5 L5)) (by omega)⟩) ?_
 refine .cR rfl [1] Tryz.func266 (fun H=>⟨_,ar1 (H.r 9 1),bBytes _ (IntO.p (SV.sub [1] (H.a 1 rfl) rfl)) (by omega)⟩) ?_
 refine .mz rfl 0 (V:=pt b5) rfl ?_
 refine .cR rfl [] Tryz.func259 (fun H=>⟨_,ar1 (H.g 11 3),qDenom _ (H.was _ [] (VP.at F5 L5)) (by omega)⟩) ?_
 refine .cR rfl [4] Tryz.func266 (fun H=>⟨_,ar1 (H.r 12 4),bBytes _ (IntO.p (SV.sub [4] (H.a 4 rfl) rfl)) (by omega)⟩) ?_
 refine .mn rfl 2 [1,2] ?_
 refine .mn rfl 5 [4,5] ?_
 refine .dk (fun u=>pt b5::U::u1 0::u1 1::u 6::u 7::v0::pt b5::sq u 0 6 (us 19)) K6 bel fun u3 w3 D bel=>?_
 obtain ⟨x7,E3_6,F_x7⟩:∃ x_,(u3 6).v = x_ ∧ (BytP x.num.natAbs).p (Amb S W) x_ w3:=⟨_,rfl,D.rr 6⟩
 obtain ⟨x8,E3_7,F_x8⟩:∃ x_,(u3 7).v = x_ ∧ (BytP ((x.den:Int).natAbs)).p (Amb S W) x_ w3:=⟨_,rfl,D.rr 7⟩
 replace B2:=D.k B2
 replace F5:=D.o L5 F5
 clear D
 refine wp_seq_k fun _ K9=>?_
 rcases Bool.eq_false_or_eq_true (decide (1024 < (((bS x.num.natAbs).size:Nat):Int))) with c11 | c11
 ·
  have dc11:=of_decide_eq_true c11
  refine gs 8 (Amb S W) fun _ K10=>?_
  refine .mz rfl 4 E3_6 ?_
  refine .e rfl (V:=.int .i64 (((bS x.num.natAbs).size:Nat):Int)) (fun H=>by have e_:=(H.g 14 0); obtain ⟨_,_,_,_,_,hv_,_⟩:=(show Byts _ _ _ from (VP.any _ (H.was _ [] F_x7))); rw [hv_] at e_; rw [bS_len]; clear H; go_simp) ?_
  refine .e rfl (V:=.bool true) (fun H=>x_cm (H.g 15 1) (H.c _) c11) ?_
  refine .mv rfl 2 ?_
  refine .sk rfl 3 ?_
  refine .sk rfl 3 ?_
  refine .sk rfl 3 ?_
  refine .e rfl (fun H=>x_pkT (H.g 17 3) (H.c _)) ?_
  refine .dk (fun u=>pt b5::U::u1 0::u1 1::u3 6::u3 7::v0::pt b5::sq u3 0 6 (sq u 0 8 (us 11))) K10 bel fun u4 w4 D bel=>?_
  have E4_7:=D.q 7
  replace B2:=D.k B2
  replace F5:=D.o L5 F5
  replace F_x7:=D.gr (BytP x.num.natAbs) F_x7
  replace F_x8:=D.gr (BytP ((x.den:Int).natAbs)) F_x8
  clear D
  refine wp_cond_true (by exact E4_7) ?_
  refine gs1 3 (Amb S W) 1 B2 fun _ K12=>?_
  refine .e rfl (V:=.agg zF) (fun H=>by clear H; go_simp) ?_
  refine .s1 rfl B2 (fun H=>⟨H.z 2 E1_0,H.g 22 0⟩) ?_
  refine .mc rfl ?_
  refine .d1 (fun u=>pt b5::U::u1 0::u 2::u3 6::u3 7::v0::pt b5::sq u3 0 6 (sq u4 0 8 (u 0::us 10))) K12 bel A2 fun u5 w5 D bel=>?_
  have E5_2:=D.q 2
  replace B2:=D.ol 1
  clear D
  refine wp_ret ?_
  refine ret_ok rfl (by exact results_mix rfl (by exact E1_0) B2 Tryz.underlying25 rfl (by kernel_rfl) (by exact E5_2)) (RetV.mk ?_ bel)
  exact congrArg Ending.returned (fcut_no (fcut_2 c11))
 ·
  have dc11:=of_decide_eq_false c11
  refine gs 8 (Amb S W) fun _ K10=>?_
  refine .mz rfl 4 E3_6 ?_
  refine .e rfl (V:=.int .i64 (((bS x.num.natAbs).size:Nat):Int)) (fun H=>by have e_:=(H.g 14 0); obtain ⟨_,_,_,_,_,hv_,_⟩:=(show Byts _ _ _ from (VP.any _ (H.was _ [] F_x7))); rw [hv_] at e_; rw [bS_len]; clear H; go_simp) ?_
  refine .e rfl (V:=.bool false) (fun H=>x_cm (H.g 15 1) (H.c _) c11) ?_
  refine .mv rfl 2 ?_
  refine .mz rfl 5 E3_7 ?_ (hg:=gq 3 rfl)
  refine .e rfl (V:=.int .i64 (((bS ((x.den:Int).natAbs)).size:Nat):Int)) (fun H=>by have e_:=(H.g 18 4); obtain ⟨_,_,_,_,_,hv_,_⟩:=(show Byts _ _ _ from (VP.any _ (H.was _ [] F_x8))); rw [hv_] at e_; rw [bS_len]; clear H; go_simp) ?_ (hg:=gq 3 rfl)
  refine .e rfl (V:=.bool (decide (1024 < (((bS ((x.den:Int).natAbs)).size:Nat):Int)))) (fun H=>x_cmp (H.g 19 5) (H.c _)) ?_ (hg:=gq 3 rfl)
  refine .e rfl (fun H=>x_pkF (H.g 17 3) (H.g 20 6)) ?_
  refine .dk (fun u=>pt b5::U::u1 0::u1 1::u3 6::u3 7::v0::pt b5::sq u3 0 6 (sq u 0 8 (us 11))) K10 bel fun u4 w4 D bel=>?_
  have E4_7:=D.q 7
  replace B2:=D.k B2
  replace F5:=D.o L5 F5
  replace F_x7:=D.gr (BytP x.num.natAbs) F_x7
  replace F_x8:=D.gr (BytP ((x.den:Int).natAbs)) F_x8
  clear D
  rcases Bool.eq_false_or_eq_true (decide (1024 < (((bS ((x.den:Int).natAbs)).size:Nat):Int))) with c13 | c13
  ·
   refine wp_cond_true ((E4_7).trans (congrArg Value.bool c13)) ?_
   have dc13:=of_decide_eq_true c13
   refine gs1 3 (Amb S W) 1 B2 fun _ K14=>?_
   refine .e rfl (V:=.agg zF) (fun H=>by clear H; go_simp) ?_
   refine .s1 rfl B2 (fun H=>⟨H.z 2 E1_0,H.g 22 0⟩) ?_
   refine .mc rfl ?_
   refine .d1 (fun u=>pt b5::U::u1 0::u 2::u3 6::u3 7::v0::pt b5::sq u3 0 6 (sq u4 0 8 (u 0::us 10))) K14 bel A2 fun u5 w5 D bel=>?_
   have E5_2:=D.q 2
   replace B2:=D.ol 1
   clear D
   refine wp_ret ?_
   refine ret_ok rfl (by exact results_mix rfl (by exact E1_0) B2 Tryz.underlying25 rfl (by kernel_rfl) (by exact E5_2)) (RetV.mk ?_ bel)
   exact congrArg Ending.returned (fcut_no (fcut_3 c13))
  ·
   refine wp_cond_false ((E4_7).trans (congrArg Value.bool c13)) ?_
   have dc13:=of_decide_eq_false c13
   refine wp_skip ?_
   refine K9 _ _ ?_
   refine gd1 12 (Amb S W) 10 B2 fun _ K15=>?_
   refine .mz rfl 0 (V:=pt b5) rfl ?_
   refine .cK rfl Tryz.func140 (fun H=>⟨_,ar1 (H.g 23 0),qSign _ (VP.any _ (H.was _ [] (VP.at F5 L5)))⟩) ?_
   refine .e rfl (V:=.bool (decide (x.num.sign < 0))) (fun H=>x_cmp (H.g 24 1) (H.c _)) ?_
   refine .mz rfl 4 E3_6 ?_
   refine Go2.eq (i:=4) rfl (G0 rfl) (V:=.string (bS x.num.natAbs)) (by intro u μ ρ H; exact ex_conv rfl (H.g 26 3) (Byts.str (VP.any _ (H.was _ [] F_x7)))) ?_
   refine .e rfl (V:=.agg #[.bool (decide (x.num.sign < 0)),.string (bS x.num.natAbs)]) (fun H=>by have e25:=H.g 25 2; have e27:=H.g 27 4; clear H; go_simp) ?_
   refine .mz rfl 5 E3_7 ?_
   refine Go2.eq (i:=7) rfl (G0 rfl) (V:=.string (bS ((x.den:Int).natAbs))) (by intro u μ ρ H; exact ex_conv rfl (H.g 29 6) (Byts.str (VP.any _ (H.was _ [] F_x8)))) ?_
   refine .e rfl (V:=.agg #[.bool false,.string (bS ((x.den:Int).natAbs))]) (fun H=>by have e30:=H.g 30 7; clear H; go_simp) ?_
   refine .e rfl (V:=.agg #[.bool (decide (x.num.sign < 0)),.string (bS x.num.natAbs),.bool false,.string (bS ((x.den:Int).natAbs))]) (fun H=>by have e28:=H.g 28 5; have e31:=H.g 31 8; clear H; go_simp) ?_
   refine .s1 rfl B2 (fun H=>⟨H.z 2 E1_0,H.g 32 9⟩) ?_
   refine .mc rfl ?_
   refine .d1 (fun u=>pt b5::U::u1 0::u 11::u3 6::u3 7::v0::pt b5::sq u3 0 6 (sq u4 0 8 (U::sq u 0 10 []))) K15 bel A2 fun u6 w6 D bel=>?_
   have E6_11:=D.q 11
   replace B2:=D.ol 10
   clear D
   refine wp_ret ?_
   refine ret_ok rfl (by exact results_mix rfl (by exact E1_0) B2 Tryz.underlying25 rfl (by kernel_rfl) (by exact E6_11)) (RetV.mk ?_ bel)
   exact congrArg Ending.returned (ecut_yes (fcut_1 c11 c13))
theorem eWhole (x:Int) (p0:hi x ≤ 1099511627000) :
  Calls Tryz.prog 257 #[wV x] W (Ret (IntO x) S W):=by
 have q0:=hi_bl x
 have q1:=hi_nat x.natAbs
 have bel:=b0 W
 go_enter Tryz.func257,Tryz.ntmps257
 refine gs 2 (Amb S W) fun _ K1=>?_
 refine .bx rfl (fun H=>H.v 0 (wV x)) ?_
 refine .mc rfl ?_
 refine .dk (fun u=>wV x::u 0::u 1::us 12) K1 bel fun u1 w1 D bel=>?_
 obtain ⟨b2,E1_0,A2,B2⟩:=D.nw 0
 have E1_1:=D.q 1
 clear D
 refine gs 6 (Amb S W) fun _ K3=>?_
 refine .al rfl zI ?_
 refine .fz rfl 1 1 E1_0 ?_
 refine .lc rfl 1 B2 ?_ (V:=.string (bS x.natAbs))
 refine Go2.grow (i:=3) rfl (G0 rfl) (.val 3 [] (BytP x.natAbs)) (fun u μ ρ H=>by have e6:=H.g 6 2; obtain ⟨v_,w_,hr_,hm_,hb_⟩:=conv_byt x.natAbs μ (by omega); exact ⟨v_,w_,ex_conv rfl e6 hr_,SP.bytVal hm_,hb_⟩) ?_
 refine .cO rfl 0 Tryz.func287 (fun H h0 hz=>⟨_,ar2 (H.p 4 0 h0) (H.r 7 3),bSetBytes (n:=_) (IntBlk.of hz) (SV.any (H.a 3 rfl)) (by omega)⟩) ?_
 refine .mo rfl 4 ?_
 refine .dk (fun u=>wV x::u1 0::u1 1::u 5::sq u 0 5 (us 6)) K3 bel fun u2 w2 D bel=>?_
 obtain ⟨b4,E2_5,A4,F4⟩:=D.ow 5
 have N2_4:=D.n1 0 (lt_of B2) ((D.a 5 rfl).1.symm.trans E2_5)
 replace B2:=D.k B2
 have L4:Amb S W b4:=.inr A4
 clear D
 refine wp_seq_k fun _ K5=>?_
 refine gs 2 (Amb S W) fun _ K6=>?_
 refine .fz rfl 1 0 E1_0 ?_
 refine .lc rfl 0 B2 ?_ (V:=.bool (decide (x < 0)))
 refine .dk (fun u=>wV x::u1 0::u1 1::u2 5::sq u2 0 5 (u 0::u 1::us 4)) K6 bel fun u3 w3 D bel=>?_
 have E3_1:=D.q 1
 replace F4:=D.o L4 F4
 clear D
 rcases Bool.eq_false_or_eq_true (decide (x < 0)) with c7 | c7
 ·
  refine wp_cond_true ((E3_1).trans (congrArg Value.bool c7)) ?_
  have dc7:=of_decide_eq_true c7
  refine go2_seqT 2 1 rfl (Amb S W) [] [] (Olds.nil _) (by kernel_rfl) ?_
  refine .mz rfl 3 E2_5 ?_
  refine .mz rfl 3 E2_5 ?_
  refine .dT (fun u=>wV x::u1 0::u1 1::u2 5::sq u2 0 5 (u3 0::u3 1::sq u 0 3 (U::[]))) bel.size _ rfl fun u4 w4 D=>?_
  have E4_0:=D.q 0
  have E4_1:=D.q 1
  replace F4:=D.o L4 F4
  replace bel:=D.d.base.bel0 bel bel.size
  clear D
  refine wpT_callO (args:=#[pt b4,pt b4]) rfl (ex_call rfl rfl Tryz.func254 (by kernel_rfl) (by kernel_rfl) (by simp only [List.map_toArray,List.map_cons,List.map_nil]; show #[(u4 0).v,(u4 1).v] = #[pt b4,pt b4]; rw [E4_0,E4_1])) (bNeg (z:=b4) (x:=(x.natAbs:Int)) (IntO.blk F4) (IntO.p (VP.any _ F4)) (by omega)) fun w8 fw8 ow8=>?_
  have sw8:Soft w4 b4 ∨ Local w4 b4:=.inl (IntO.soft F4)
  have F4:=fw8
  have L4:Amb S W b4:=.inr A4
  replace bel:=bel.trans (only_below' ow8 A4 bel.size)
  refine wpList_nil ?_
  show _
  refine K5 _ _ ?_
  refine gs 2 (Amb S W) fun _ K9=>?_
  refine .mz rfl 3 E2_5 ?_
  refine .mv rfl 0 ?_
  refine .dk (fun u=>wV x::u1 0::u 1::u2 5::sq u2 0 5 (u3 0::u3 1::u4 0::u4 1::.pointer (some ⟨b4,0,none⟩)::u 0::[])) K9 bel fun u5 w5 D bel=>?_
  have E5_1:=D.q 1
  replace F4:=D.o L4 F4
  clear D
  refine wp_ret ?_
  refine ret_ok rfl (by exact results_tmp' rfl (by exact E5_1)) ⟨_,rfl,?_,bel⟩
  exact into_eq (num_n dc7) (VP.at F4 L4)
 ·
  refine wp_cond_false ((E3_1).trans (congrArg Value.bool c7)) ?_
  have dc7:=of_decide_eq_false c7
  refine wp_skip ?_
  refine K5 _ _ ?_
  refine gs 2 (Amb S W) fun _ K10=>?_
  refine .mz rfl 3 E2_5 ?_
  refine .mv rfl 0 ?_
  refine .dk (fun u=>wV x::u1 0::u 1::u2 5::sq u2 0 5 (u3 0::u3 1::U::U::U::u 0::[])) K10 bel fun u6 w6 D bel=>?_
  have E6_1:=D.q 1
  replace F4:=D.o L4 F4
  clear D
  refine wp_ret ?_
  refine ret_ok rfl (by exact results_tmp' rfl (by exact E6_1)) ⟨_,rfl,?_,bel⟩
  exact into_eq (num_p dc7) (VP.at F4 L4)
end Go.Proofs.YtcpjdjnaipbieaaGreat
namespace Go.Proofs.YtcpjdjnaipbieaaGreat
open Go.RowKit Rgn Eng
set_option maxHeartbeats 8000000
set_option maxRecDepth 100000
variable {S:Nat → Prop} {W:World}
theorem eDiv {v0 v1:Value} (x:Cx) (y:Cx) (t0:(NumP x).p S v0 W) (t1:(NumP y).p S v1 W) (p0:ht x.re + ht x.im + ht y.re + ht y.im ≤ 1073741824) (p1:y.norm ≠ 0):Calls Tryz.prog 242 #[v0,v1] W (Ret (NumP (x.div y)) S W):=by
 have h1:=hc_conj y
 have h2:=hc_mul x y.conj
 have h3:=hc_norm y
 have h4:=ht_inv y.norm
 refine Run.goP (S:=S) ((Pack.nil.s spNum t0).s spNum t1) Tryz.func242 rfl ?_
 refine Run.dr ?_
 refine RunD.cR spNum (fun _ _ _ H=>eConj y (NumP.mk (H.f 2) (H.f 3)) (by first | omega | exact p1)) ?_
 refine RunD.cR spNum (fun _ _ _ H=>eNMul x y.conj (NumP.mk (H.f 0) (H.f 1)) (NumP.mk (H.f 4) (H.f 5)) (by first | omega | exact p1)) ?_
 refine RunD.cR spRat (fun _ _ _ H=>eNorm y (NumP.mk (H.f 2) (H.f 3)) (by first | omega | exact p1)) ?_
 refine RunD.cO 3 softRat (fun _ _ _ H=>qInv y.norm (RatP.blk (H.oz 3)) (anyV (H.f 8)) (by first | omega | exact p1) p1) ?_
 refine RunD.cRs [3] spNum (fun _ _ _ H=>eScale (x.mul y.conj) (y.norm⁻¹) (NumP.mk (H.f 6) (H.f 7)) (RatP.n (H.s 3)) (by first | omega | exact p1)) ?_
 refine RunD.en ?_
 exact Run.rR (fun _ _ _ H=>VPe (φ:=NumP) (cx_over x y) (NumP.mk (H.f 10) (H.f 11)))
theorem eTold {v0:Value} (x:Cx) (t0:(NumP x).p S v0 W) (p0:ht x.re + ht x.im ≤ 68719476736):Calls Tryz.prog 229 #[v0] W (RetV (.tuple #[rgV (gcut x),.int .i64 (gerr x)]) W):=by
 refine Run.goP (S:=S) (Pack.nil.s spNum t0) Tryz.func229 rfl ?_
 refine Run.cV ((rfC (fcut x.re)).toList ++ [.int .i64 (ferr x.re)]) (.tup [.agg (ks 0 4),.o (.k 4)]) (fun _ _ _ H=>eFrac x.re (H.f 0) (by omega)) ?_
 refine Run.cV ((rfC (fcut x.im)).toList ++ [.int .i64 (ferr x.im)]) (.tup [.agg (ks 0 4),.o (.k 4)]) (fun _ _ _ H=>eFrac x.im (H.f 1) (by omega)) ?_
 refine Run.ic (ferr x.re) 0 ((ferr x.re) != 0) ?_
 refine (Bool.eq_false_or_eq_true ((ferr x.re) != 0)).elim (fun c1=>?_) (fun c1=>?_)
 · refine Run.kn c1 ?_
   exact Run.rV (gcut_no (.inl c1))
 · refine Run.kn c1 ?_
   refine Run.ic (ferr x.im) 0 ((ferr x.im) != 0) ?_
   refine (Bool.eq_false_or_eq_true ((ferr x.im) != 0)).elim (fun c2=>?_) (fun c2=>?_)
   · refine Run.kn c2 ?_
     exact Run.rV (gcut_no (.inr c2))
   · refine Run.kn c2 ?_
     exact Run.rV (gcut_yes c1 c2)
end Go.Proofs.YtcpjdjnaipbieaaGreat
namespace Go.Proofs.YtcpjdjnaipbieaaGreat
open Go.RowKit Rgn
set_option maxHeartbeats 4000000
set_option maxRecDepth 100000
variable {S:Nat → Prop} {W:World}
theorem eRatOk (x:Rat) (p0:fits (rf x) = true) :
  Calls Tryz.prog 198 #[fV x] W (Ret (RatP x) S W):=by
 have n0:=hi_num x
 have n2:=hi_den x
 have f0:=efits_le p0
 have f1:ht (Rat.divInt x.num (x.den:Int)) ≤ 8200:=by rw [fr_self]; exact f0
 have f2:=hi_num (Rat.divInt x.num (x.den:Int))
 have f3:=hi_den (Rat.divInt x.num (x.den:Int))
 have bel:=b0 W
 go_enter Tryz.func198,Tryz.ntmps198
 refine gs 2 (Amb S W) fun _ K1=>?_
 refine .bx rfl (fun H=>H.v 0 (fV x)) ?_
 refine .mc rfl ?_
 refine .dk (fun u=>fV x::u 0::u 1::us 61) K1 bel fun u1 w1 D bel=>?_
 obtain ⟨b2,E1_0,A2,B2⟩:=D.nw 0
 have E1_1:=D.q 1
 clear D
 refine wp_seq_k fun _ K3=>?_
 refine gs 35 (Amb S W) fun _ K4=>?_
 refine .fz rfl 1 0 E1_0 ?_
 refine .lp rfl 0 (wC x.num) B2 ?_
 refine .cK rfl (V:=.bool true) Tryz.func256 (fun H=>⟨_,ar1 (H.g 7 1),reV (congrArg Value.bool (wformed_rw _)) (eFormed (rw x.num))⟩) ?_
 refine .e rfl (V:=.bool false) (fun H=>x_not (H.g 8 2)) ?_
 refine .mv rfl 3 ?_
 refine .fz rfl 1 2 E1_0 ?_ (hg:=gq 4 rfl)
 refine .lp rfl 5 (wC (x.den:Int)) B2 ?_ (hg:=gq 4 rfl)
 refine .cK rfl (V:=.bool true) Tryz.func256 (fun H=>⟨_,ar1 (H.g 12 6),reV (congrArg Value.bool (wformed_rw _)) (eFormed (rw (x.den:Int)))⟩) ?_ (hg:=gq 4 rfl)
 refine .e rfl (V:=.bool false) (fun H=>x_not (H.g 13 7)) ?_ (hg:=gq 4 rfl)
 refine .e rfl (fun H=>x_pkF (H.g 10 4) (H.g 14 8)) ?_
 refine .mv rfl 9 ?_
 refine .fz rfl 1 2 E1_0 ?_ (hg:=gq 10 rfl)
 refine .fj rfl 11 2 ?_ (hg:=gq 10 rfl)
 refine .e rfl (V:=.bool false) (fun H=>by have e18:=H.g 18 12; have c1:=cell_of (off:=2) (H.b B2) rfl; have k_:=(den_nn x); clear H; go_simp <;> first | (simp_all; done) | omega | exact len_gt z0_) ?_ (hg:=gq 10 rfl)
 refine .e rfl (fun H=>x_pkF (H.g 16 10) (H.g 19 13)) ?_
 refine .mv rfl 14 ?_
 refine .fz rfl 1 2 E1_0 ?_ (hg:=gq 15 rfl)
 refine .fj rfl 16 3 ?_ (hg:=gq 15 rfl)
 refine .lc rfl 17 B2 ?_ (V:=.string (bS (x.den:Int).natAbs)) (hg:=gq 15 rfl)
 refine .e rfl (V:=.bool false) (fun H=>by have e24:=H.g 24 18; have k1:=H.c (.string (ByteArray.mk #[])); have s_:=bS_empty ((x.den:Int).natAbs); have k_:=(den_na x); clear H; go_simp <;> first | (simp_all; done) | omega | exact len_gt z0_) ?_ (hg:=gq 15 rfl)
 refine .e rfl (fun H=>x_pkF (H.g 21 15) (H.g 25 19)) ?_
 refine .mv rfl 20 ?_
 refine .fz rfl 1 0 E1_0 ?_ (hg:=gq 21 rfl)
 refine .fj rfl 22 1 ?_ (hg:=gq 21 rfl)
 refine .lc rfl 23 B2 ?_ (V:=.string (bS x.num.natAbs)) (hg:=gq 21 rfl)
 refine .e rfl (V:=.int .i64 (((bS x.num.natAbs).size:Nat):Int)) (fun H=>by have e30:=H.g 30 24; clear H; go_simp) ?_ (hg:=gq 21 rfl)
 refine .e rfl (V:=.bool false) (fun H=>x_cm (H.g 31 25) (H.c _) (fits_num p0)) ?_ (hg:=gq 21 rfl)
 refine .e rfl (fun H=>x_pkF (H.g 27 21) (H.g 32 26)) ?_
 refine .mv rfl 27 ?_
 refine .fz rfl 1 2 E1_0 ?_ (hg:=gq 28 rfl)
 refine .fj rfl 29 3 ?_ (hg:=gq 28 rfl)
 refine .lc rfl 30 B2 ?_ (V:=.string (bS (x.den:Int).natAbs)) (hg:=gq 28 rfl)
 refine .e rfl (V:=.int .i64 (((bS (x.den:Int).natAbs).size:Nat):Int)) (fun H=>by have e37:=H.g 37 31; clear H; go_simp) ?_ (hg:=gq 28 rfl)
 refine .e rfl (V:=.bool false) (fun H=>x_cm (H.g 38 32) (H.c _) (fits_den p0)) ?_ (hg:=gq 28 rfl)
 refine .e rfl (fun H=>x_pkF (H.g 34 28) (H.g 39 33)) ?_
 refine .dk (fun u=>fV x::u1 0::u1 1::U::U::U::sq u 0 35 (us 23)) K4 bel fun u2 w2 D bel=>?_
 have E2_34:=D.q 34
 replace B2:=D.k B2
 clear D
 refine wp_cond_false (by exact E2_34) ?_
 refine wp_skip ?_
 refine K3 _ _ ?_
 refine gd 8 (Amb S W) fun _ K5=>?_
 refine .fz rfl 1 0 E1_0 ?_
 refine .lp rfl 0 (wC x.num) B2 ?_
 refine .cR rfl [] Tryz.func257 (fun H=>⟨_,ar1 (H.g 42 1),eWhole _ (by first | omega | exact den_ne x)⟩) ?_
 refine .fz rfl 1 2 E1_0 ?_
 refine .lp rfl 3 (wC (x.den:Int)) B2 ?_
 refine .cR rfl [] Tryz.func257 (fun H=>⟨_,ar1 (H.g 45 4),eWhole _ (by first | omega | exact den_ne x)⟩) ?_
 refine .mn rfl 2 [2] ?_
 refine .mn rfl 5 [5] ?_
 refine .dk (fun u=>fV x::u1 0::u1 1::u 6::u 7::U::sq u2 0 35 (sq u 0 6 (us 17))) K5 bel fun u3 w3 D bel=>?_
 obtain ⟨b6,E3_6,L6,F6⟩:=IntO.elim (D.rr 6)
 obtain ⟨b7,E3_7,L7,F7⟩:=IntO.elim (D.rr 7)
 clear D
 refine gs 5 (Amb S W) fun _ K8=>?_
 refine .al rfl zQ ?_
 refine .mz rfl 3 E3_6 ?_
 refine .mz rfl 4 E3_7 ?_
 refine .cO rfl 0 Tryz.func234 (fun H h0 hz=>⟨_,ar3 (H.p 47 0 h0) (H.g 48 1) (H.g 49 2),qSetFrac _ _ (RatBlk.of hz) (IntO.p (VP.any _ (H.was _ [] (VP.at F6 L6)))) (IntO.p (VP.any _ (H.was _ [] (VP.at F7 L7)))) (by first | omega | exact den_ne x) (by first | omega | exact den_ne x)⟩) ?_
 refine .mo rfl 3 ?_
 refine .dk (fun u=>fV x::u1 0::u1 1::u3 6::u3 7::u 4::sq u2 0 35 (sq u3 0 6 (sq u 0 4 (us 13)))) K8 bel fun u4 w4 D bel=>?_
 obtain ⟨b9,E4_4,A9,F9⟩:=D.ow 4
 replace F6:=D.o L6 F6
 replace F7:=D.o L7 F7
 have L9:Amb S W b9:=.inr A9
 clear D
 refine wp_seq_k fun _ K10=>?_
 refine gs 12 (Amb S W) fun _ K11=>?_
 refine .mz rfl 5 E4_4 ?_
 refine .cR rfl [] Tryz.func258 (fun H=>⟨_,ar1 (H.g 51 0),qNum _ (H.was _ [] (VP.at F9 L9)) (by first | omega | exact den_ne x)⟩) ?_
 refine .mz rfl 3 E3_6 ?_
 refine .cK rfl Tryz.func251 (fun H=>⟨_,ar2 (H.r 52 1) (H.g 53 2),bCmp _ _ (IntO.p (SV.any (H.a 1 rfl))) (IntO.p (VP.any _ (H.was _ [] (VP.at F6 L6)))) (by first | omega | exact den_ne x)⟩) ?_
 refine .e rfl (V:=.bool false) (fun H=>x_cm (H.g 54 3) (H.c _) (back_num x)) ?_
 refine .mv rfl 4 ?_
 refine .mz rfl 5 E4_4 ?_ (hg:=gq 5 rfl)
 refine .cR rfl [] Tryz.func259 (fun H=>⟨_,ar1 (H.g 57 6),qDenom _ (H.was _ [] (VP.at F9 L9)) (by first | omega | exact den_ne x)⟩) ?_ (hg:=gq 5 rfl)
 refine .mz rfl 4 E3_7 ?_ (hg:=gq 5 rfl)
 refine .cK rfl Tryz.func251 (fun H=>⟨_,ar2 (H.r 58 7) (H.g 59 8),bCmp _ _ (IntO.p (SV.any (H.a 7 rfl))) (IntO.p (VP.any _ (H.was _ [] (VP.at F7 L7)))) (by first | omega | exact den_ne x)⟩) ?_ (hg:=gq 5 rfl)
 refine .e rfl (V:=.bool false) (fun H=>x_cm (H.g 60 9) (H.c _) (back_den x)) ?_ (hg:=gq 5 rfl)
 refine .e rfl (fun H=>x_pkF (H.g 56 5) (H.g 61 10)) ?_
 refine .dk (fun u=>fV x::u1 0::u1 1::u3 6::u3 7::u4 4::sq u2 0 35 (sq u3 0 6 (sq u4 0 4 (sq u 0 12 (U::[]))))) K11 bel fun u5 w5 D bel=>?_
 have E5_11:=D.q 11
 replace F9:=D.o L9 F9
 clear D
 refine wp_cond_false (by exact E5_11) ?_
 refine wp_skip ?_
 refine K10 _ _ ?_
 refine gs 2 (Amb S W) fun _ K12=>?_
 refine .mz rfl 5 E4_4 ?_
 refine .mv rfl 0 ?_
 refine .dk (fun u=>fV x::u1 0::u 1::u3 6::u3 7::u4 4::sq u2 0 35 (sq u3 0 6 (sq u4 0 4 (sq u5 0 12 (u 0::[]))))) K12 bel fun u6 w6 D bel=>?_
 have E6_1:=D.q 1
 replace F9:=D.o L9 F9
 clear D
 refine wp_ret ?_
 refine ret_ok rfl (by exact results_tmp' rfl (by exact E6_1)) ⟨_,rfl,?_,bel⟩
 exact rat_eq (fr_self x) (VP.at F9 L9)
theorem eOf (x:Cx) (p0:gfits (rg x) = true) :
  Calls Tryz.prog 197 #[gV x] W (Ret (VP.tup (NumP x) (VP.is (.bool true))) S W):=by
 have bel:=b0 W
 go_enter Tryz.func197,Tryz.ntmps197
 refine gs 3 (Amb S W) fun _ K1=>?_
 refine .bx rfl (fun H=>H.v 0 (gV x)) ?_
 refine .al rfl (#[.pointer none,.pointer none]) ?_
 refine .mc rfl ?_
 refine .dk (fun u=>gV x::sq u 0 3 (us 17)) K1 bel fun u1 w1 D bel=>?_
 obtain ⟨b2,E1_0,A2,B2⟩:=D.nw 0
 obtain ⟨b3,E1_1,A3,B3⟩:=D.nw 1
 have E1_2:=D.q 2
 have N2_3:=D.n2 0 1 E1_0 E1_1
 clear D
 refine gd 8 (Amb S W) fun _ K4=>?_
 refine .fz rfl 1 0 E1_0 ?_
 refine .lp rfl 0 (fC x.re) B2 ?_
 refine .cR rfl [] Tryz.func198 (fun H=>⟨_,ar1 (H.g 7 1),eRatOk _ (by first | exact (and_tt p0).1 | exact (and_tt p0).2)⟩) ?_
 refine .fz rfl 1 4 E1_0 ?_
 refine .lp rfl 3 (fC x.im) B2 ?_
 refine .cR rfl [] Tryz.func198 (fun H=>⟨_,ar1 (H.g 10 4),eRatOk _ (by first | exact (and_tt p0).1 | exact (and_tt p0).2)⟩) ?_
 refine .mn rfl 2 [2] ?_
 refine .mn rfl 5 [5] ?_
 refine .dk (fun u=>gV x::sq u1 0 3 (u 6::u 7::sq u 0 6 (us 9))) K4 bel fun u2 w2 D bel=>?_
 obtain ⟨b5,E2_6,L5,F5⟩:=RatP.elim (D.rr 6)
 obtain ⟨b6,E2_7,L6,F6⟩:=RatP.elim (D.rr 7)
 replace B3:=D.k B3
 clear D
 refine gs1 11 (Amb S W) 9 B3 fun _ K7=>?_
 refine .mz rfl 4 E2_6 ?_
 refine .mz rfl 5 E2_7 ?_
 refine .e rfl (V:=.agg #[pt b5,pt b6]) (fun H=>by have e12:=H.g 12 0; have e13:=H.g 13 1; clear H; go_simp) ?_
 refine .mz rfl 4 E2_6 ?_
 refine .e rfl (V:=.bool true) (fun H=>x_pnN (H.g 15 3) (H.c _)) ?_
 refine .mv rfl 4 ?_
 refine .mz rfl 5 E2_7 ?_ (hg:=gq 5 rfl)
 refine .e rfl (V:=.bool true) (fun H=>x_pnN (H.g 18 6) (H.c _)) ?_ (hg:=gq 5 rfl)
 refine .e rfl (fun H=>x_pkT (H.g 17 5) (H.g 19 7)) ?_
 refine .s1 rfl B3 (fun H=>⟨H.z 2 E1_1,H.g 14 2⟩) ?_
 refine .mv rfl 8 ?_
 refine .d1 (fun u=>gV x::u1 0::u1 1::u 10::u2 6::u2 7::sq u2 0 6 (sq u 0 9 [])) K7 bel A3 fun u3 w3 D bel=>?_
 have E3_10:=D.q 10
 replace B3:=D.ol 9
 replace F5:=D.o L5 F5
 replace F6:=D.o L6 F6
 clear D
 refine wp_ret ?_
 refine ret_ok rfl (by exact results_mix rfl (by exact E1_1) B3 Tryz.underlying178 rfl (by kernel_rfl) (by exact E3_10)) ⟨_,rfl,?_,bel⟩
 exact ⟨_,_,rfl,(NumP.mk (RatP.n (VP.at F5 L5)) (RatP.n (VP.at F6 L6))),rfl⟩
end Go.Proofs.YtcpjdjnaipbieaaGreat
namespace Go.Proofs.YtcpjdjnaipbieaaGreat
open Go.RowKit Rgn Eng
set_option maxHeartbeats 8000000
set_option maxRecDepth 100000
variable {S:Nat → Prop} {W:World}
theorem eReal {v0:Value} (x:Rat) (t0:(RatP x).p S v0 W):Calls Tryz.prog 176 #[v0] W (Ret (NumP ⟨x,0⟩) S W):=by
 refine Run.goP (S:=S) (Pack.nil.s spRat t0) Tryz.func176 rfl ?_
 exact Run.rR (fun _ _ _ H=>NumP.mk (RatP.n (H.f 0)) (RatN.nil rfl))
theorem eTwice {v0:Value} (x:Rat) (t0:(RatP x).p S v0 W) (p0:ht x ≤ 34359738368):Calls Tryz.prog 244 #[v0] W (Ret (RatP (x + x)) S W):=by
 refine Run.goP (S:=S) (Pack.nil.s spRat t0) Tryz.func244 rfl ?_
 refine Run.cO 0 softRat (fun _ _ _ H=>qAdd x x (RatP.blk (H.oz 0)) (anyV (H.f 0)) (anyV (H.f 0)) (by first | omega | (dsimp only at *; omega))) ?_
 exact Run.rR (fun _ _ _ H=>H.s 0)
theorem eSum3 {v0:Value} (x:Rat) (y:Rat) (z:Rat) (t0:(RatsP [x,y,z]).p S v0 W) (p0:ht x + ht y + ht z ≤ 34359738000):Calls Tryz.prog 227 #[v0] W (Ret (RatP ((0:Rat) + x + y + z)) Z0 W):=by
 have z0:=ht_zero
 have h1:=ht_add 0 x
 have h2:=ht_add (0 + x) y
 obtain ⟨b0,ys0,rfl,B0,F0⟩:=ratsCells3 t0
 refine Run.goP (S:=S) (Pack.nil.bv B0 (some 3) 3 F0) Tryz.func227 rfl ?_
 refine Run.cO 1 softRat (fun _ _ _ H=>qAdd (0:Rat) x (RatP.blk (H.oz 1)) (anyV (H.oz 1)) (anyV (H.f 0)) (by first | omega | (dsimp only at *; omega))) ?_
 refine Run.cO 1 softRat (fun _ _ _ H=>qAdd ((0:Rat) + x) y (RatP.blk (q:=(0:Rat) + x) (H.o 1)) (anyV (H.o 1)) (anyV (H.f 1)) (by first | omega | (dsimp only at *; omega))) ?_
 refine Run.cO 1 softRat (fun _ _ _ H=>qAdd (((0:Rat) + x) + y) z (RatP.blk (q:=((0:Rat) + x) + y) (H.o 1)) (anyV (H.o 1)) (anyV (H.f 2)) (by first | omega | (dsimp only at *; omega))) ?_
 exact Run.rN (φ:=RatP ((0:Rat) + x + y + z)) 1 (fun _ _ _ H=>⟨H.ow 1,H.o 1⟩)
theorem rgPow {v0:Value} (c:Ci) (t0:(RingP c).p S v0 W) (p0:ht c.a + ht c.b.re + ht c.b.im + ht c.c ≤ 1073741824):Calls Tryz.prog 141 #[v0] W (Ret (RatP c.pow) S W):=by
 have h1:=hc_norm c.b
 have h2:=ht_mul c.a c.c
 refine Run.goP (S:=S) (Pack.nil.s spRing t0) Tryz.func141 rfl ?_
 refine Run.dr ?_
 refine RunD.cR spRat (fun _ _ _ H=>eNorm c.b (NumP.mk (H.f 1) (H.f 2)) (by first | omega | (dsimp only at *; omega))) ?_
 refine RunD.cR spRat (fun _ _ _ H=>eMul c.a c.c (RatP.n (H.f 0)) (RatP.n (H.f 3)) (by first | omega | (dsimp only at *; omega))) ?_
 refine RunD.cO 1 softRat (fun _ _ _ H=>qSub c.b.norm (c.a * c.c) (RatP.blk (H.oz 1)) (anyV (H.f 4)) (anyV (H.f 5)) (by first | omega | (dsimp only at *; omega))) ?_
 refine RunD.en ?_
 exact Run.rR (fun _ _ _ H=>H.s 1)
theorem rgNorm {v0:Value} (c:Ci) (t0:(RingP c).p S v0 W) (p0:ht c.a + ht c.b.re + ht c.b.im + ht c.c ≤ 1073741824) (p1:c.flat = false):Calls Tryz.prog 144 #[v0] W (Ret (RingP c.nrm) S W):=by
 have h1:=ht_inv c.a
 have h2:=ht_inv c.b.re
 have h3:=ht_inv c.b.im
 refine Run.goP (S:=S) (Pack.nil.s spRing t0) Tryz.func144 rfl ?_
 refine Run.cR sp2Rat (fun _ _ _ H=>eParts c.b (NumP.mk (H.f 1) (H.f 2))) ?_
 refine Run.cV [.int .i64 c.a.num.sign] kb (fun _ _ _ H=>qSign c.a (H.f 0)) ?_
 refine Run.ic c.a.num.sign 0 (c.a.num.sign == 0) ?_
 refine (Bool.eq_false_or_eq_true (c.a.num.sign == 0)).elim (fun c1=>?_) (fun c1=>?_)
 · refine Run.kn c1 ?_
   refine Run.cV [.int .i64 c.b.re.num.sign] kb (fun _ _ _ H=>qSign c.b.re (H.f 4)) ?_
   refine Run.ic c.b.re.num.sign 0 (c.b.re.num.sign == 0) ?_
   refine (Bool.eq_false_or_eq_true (c.b.re.num.sign == 0)).elim (fun c2=>?_) (fun c2=>?_)
   · refine Run.kn c2 ?_
     refine Run.cO 3 softRat (fun _ _ _ H=>qInv c.b.im (RatP.blk (H.oz 3)) (anyV (H.f 5)) (by first | omega | (dsimp only at *; omega) | exact nz_2 p1 c1 c2 | exact sgn_no c2 | exact sgn_no c1) (by first | omega | (dsimp only at *; omega) | exact nz_2 p1 c1 c2 | exact sgn_no c2 | exact sgn_no c1)) ?_
     refine Run.dr ?_
     refine RunD.cRs [3] spRat (fun _ _ _ H=>eMul c.a (c.b.im⁻¹) (RatP.n (H.f 0)) (RatP.n (H.s 3)) (by first | omega | (dsimp only at *; omega) | exact nz_2 p1 c1 c2 | exact sgn_no c2 | exact sgn_no c1)) ?_
     refine RunD.cRs [3] spNum (fun _ _ _ H=>eScale c.b (c.b.im⁻¹) (NumP.mk (H.f 1) (H.f 2)) (RatP.n (H.s 3)) (by first | omega | (dsimp only at *; omega) | exact nz_2 p1 c1 c2 | exact sgn_no c2 | exact sgn_no c1)) ?_
     refine RunD.cRs [3] spRat (fun _ _ _ H=>eMul c.c (c.b.im⁻¹) (RatP.n (H.f 3)) (RatP.n (H.s 3)) (by first | omega | (dsimp only at *; omega) | exact nz_2 p1 c1 c2 | exact sgn_no c2 | exact sgn_no c1)) ?_
     refine RunD.en ?_
     exact Run.rR (fun _ _ _ H=>VPe (φ:=RingP) (nrm_2 c1 c2) (RingP.mk (H.f 7) (H.f 8) (H.f 9) (H.f 10)))
   · refine Run.kn c2 ?_
     refine Run.cO 3 softRat (fun _ _ _ H=>qInv c.b.re (RatP.blk (H.oz 3)) (anyV (H.f 4)) (by first | omega | (dsimp only at *; omega) | exact nz_2 p1 c1 c2 | exact sgn_no c2 | exact sgn_no c1) (by first | omega | (dsimp only at *; omega) | exact nz_2 p1 c1 c2 | exact sgn_no c2 | exact sgn_no c1)) ?_
     refine Run.dr ?_
     refine RunD.cRs [3] spRat (fun _ _ _ H=>eMul c.a (c.b.re⁻¹) (RatP.n (H.f 0)) (RatP.n (H.s 3)) (by first | omega | (dsimp only at *; omega) | exact nz_2 p1 c1 c2 | exact sgn_no c2 | exact sgn_no c1)) ?_
     refine RunD.cRs [3] spNum (fun _ _ _ H=>eScale c.b (c.b.re⁻¹) (NumP.mk (H.f 1) (H.f 2)) (RatP.n (H.s 3)) (by first | omega | (dsimp only at *; omega) | exact nz_2 p1 c1 c2 | exact sgn_no c2 | exact sgn_no c1)) ?_
     refine RunD.cRs [3] spRat (fun _ _ _ H=>eMul c.c (c.b.re⁻¹) (RatP.n (H.f 3)) (RatP.n (H.s 3)) (by first | omega | (dsimp only at *; omega) | exact nz_2 p1 c1 c2 | exact sgn_no c2 | exact sgn_no c1)) ?_
     refine RunD.en ?_
     exact Run.rR (fun _ _ _ H=>VPe (φ:=RingP) (nrm_1 c1 c2) (RingP.mk (H.f 7) (H.f 8) (H.f 9) (H.f 10)))
 · refine Run.kn c1 ?_
   refine Run.cV [.int .i64 c.a.num.sign] kb (fun _ _ _ H=>qSign c.a (H.f 0)) ?_
   refine Run.ic c.a.num.sign 0 (c.a.num.sign == 0) ?_
   refine Run.kn c1 ?_
   refine Run.cO 3 softRat (fun _ _ _ H=>qInv c.a (RatP.blk (H.oz 3)) (anyV (H.f 0)) (by first | omega | (dsimp only at *; omega) | exact nz_2 p1 c1 _ | exact sgn_no _ | exact sgn_no c1) (by first | omega | (dsimp only at *; omega) | exact nz_2 p1 c1 _ | exact sgn_no _ | exact sgn_no c1)) ?_
   refine Run.dr ?_
   refine RunD.cRs [3] spRat (fun _ _ _ H=>eMul c.a (c.a⁻¹) (RatP.n (H.f 0)) (RatP.n (H.s 3)) (by first | omega | (dsimp only at *; omega) | exact nz_2 p1 c1 _ | exact sgn_no _ | exact sgn_no c1)) ?_
   refine RunD.cRs [3] spNum (fun _ _ _ H=>eScale c.b (c.a⁻¹) (NumP.mk (H.f 1) (H.f 2)) (RatP.n (H.s 3)) (by first | omega | (dsimp only at *; omega) | exact nz_2 p1 c1 _ | exact sgn_no _ | exact sgn_no c1)) ?_
   refine RunD.cRs [3] spRat (fun _ _ _ H=>eMul c.c (c.a⁻¹) (RatP.n (H.f 3)) (RatP.n (H.s 3)) (by first | omega | (dsimp only at *; omega) | exact nz_2 p1 c1 _ | exact sgn_no _ | exact sgn_no c1)) ?_
   refine RunD.en ?_
   exact Run.rR (fun _ _ _ H=>VPe (φ:=RingP) (nrm_0 c1) (RingP.mk (H.f 7) (H.f 8) (H.f 9) (H.f 10)))
theorem eNeg {v0:Value} (x:Cx) (t0:(NumP x).p S v0 W) (p0:ht x.re + ht x.im ≤ 8589934592):Calls Tryz.prog 138 #[v0] W (Ret (NumP x.neg) S W):=by
 refine Run.goP (S:=S) (Pack.nil.s spNum t0) Tryz.func138 rfl ?_
 refine Run.dr ?_
 refine RunD.cR spRat (fun _ _ _ H=>eRat x.re (H.f 0)) ?_
 refine RunD.cO 2 softRat (fun _ _ _ H=>qNeg x.re (RatP.blk (H.oz 2)) (anyV (H.f 2)) (by omega)) ?_
 refine RunD.cR spRat (fun _ _ _ H=>eRat x.im (H.f 1)) ?_
 refine RunD.cO 3 softRat (fun _ _ _ H=>qNeg x.im (RatP.blk (H.oz 3)) (anyV (H.f 4)) (by omega)) ?_
 refine RunD.en ?_
 exact Run.rR (fun _ _ _ H=>NumP.mk (RatP.n (H.s 2)) (RatP.n (H.s 3)))
end Go.Proofs.YtcpjdjnaipbieaaGreat
namespace Go.Proofs.YtcpjdjnaipbieaaGreat
open Go.RowKit Rgn
theorem gerr_1 {x:Cx} (h:((gerr x) != 0) = true):gfits (rg x) = false:=by
 unfold gerr at h
 cases e:gfits (rg x) with
 | false=>rfl
 | true=>rw [if_pos e] at h; exact absurd h (by decide)
theorem gerr_0 {x:Cx} (h:((gerr x) != 0) = false):gfits (rg x) = true:=by
 unfold gerr at h
 cases e:gfits (rg x) with
 | true=>rfl
 | false=>rw [if_neg (by rw [e]; decide)] at h; exact absurd h (by decide)
theorem cifits_no {c:Ci} (h:((ferr c.a) != 0) = true ∨ ((gerr c.b) != 0) = true ∨ ((ferr c.c) != 0) = true):cifits (rci c) = false:=by
 show (fits (rf c.a) && gfits (rg c.b) && fits (rf c.c)) = false
 rcases h with h | h | h
 ·rw [ferr_1 h]; simp
 ·rw [gerr_1 h]; simp
 ·rw [ferr_1 h]; simp
theorem ccut_no {c:Ci} (h:((ferr c.a) != 0) = true ∨ ((gerr c.b) != 0) = true ∨ ((ferr c.c) != 0) = true):Value.tuple #[.agg zCi,.int .i64 4] = .tuple #[rciV (cicut c),.int .i64 (cierr c)]:=by
 unfold cicut cierr
 rw [if_neg (by rw [cifits_no h]; decide),if_neg (by rw [cifits_no h]; decide)]
theorem ccut_yes {c:Ci} (h1:((ferr c.a) != 0) = false) (h2:((gerr c.b) != 0) = false) (h3:((ferr c.c) != 0) = false):Value.tuple #[.agg #[.bool (fcut c.a).a.n,.string (fcut c.a).a.s,.bool (fcut c.a).b.n,.string (fcut c.a).b.s,.bool (gcut c.b).re.a.n,.string (gcut c.b).re.a.s,.bool (gcut c.b).re.b.n,.string (gcut c.b).re.b.s,.bool (gcut c.b).im.a.n,.string (gcut c.b).im.a.s,.bool (gcut c.b).im.b.n,.string (gcut c.b).im.b.s,.bool (fcut c.c).a.n,.string (fcut c.c).a.s,.bool (fcut c.c).b.n,.string (fcut c.c).b.s],.int .i64 0] = .tuple #[rciV (cicut c),.int .i64 (cierr c)]:=by
 have e:cifits (rci c) = true:=by
  show (fits (rf c.a) && gfits (rg c.b) && fits (rf c.c)) = true
  rw [ferr_0 h1,gerr_0 h2,ferr_0 h3]; rfl
 unfold cicut cierr fcut gcut
 rw [if_pos e,if_pos e,if_pos (ferr_0 h1),if_pos (gerr_0 h2),if_pos (ferr_0 h3)]
theorem undo_1 {m:Mb} (h:m.t = true):(Mb.mk m.d.conj m.b.neg.conj m.c.neg.conj m.a.conj m.t).nrm = m.undo:=by unfold Mb.undo Mb.cjM cjC; rw [if_pos h,if_pos h,if_pos h,if_pos h]
theorem undo_0 {m:Mb} (h:m.t = false):(Mb.mk m.d m.b.neg m.c.neg m.a m.t).nrm = m.undo:=by
 have h' : ¬ m.t = true:=by rw [h]; decide
 unfold Mb.undo Mb.cjM cjC; rw [if_neg h', if_neg h', if_neg h', if_neg h']
theorem zero_eq {a b:Cx} (h:a = b) (hb:b.zero = false):a.zero = false:=h ▸ hb
theorem zero_conj (z:Cx):z.conj.zero = z.zero:=by
 unfold Cx.zero
 have e:decide (-z.im = 0) = decide (z.im = 0):=decide_eq_decide.2 ⟨fun h=>by grind,fun h=>by grind⟩
 show (decide (z.re = 0) && decide (-z.im = 0)) = _
 rw [e]
theorem det_undo (m:Mb):(Mb.mk m.d m.b.neg m.c.neg m.a m.t).det = m.det:=by
 refine Cx.ext' ?_ ?_
 ·show (m.d.re * m.a.re - m.d.im * m.a.im) - (-m.b.re * -m.c.re - -m.b.im * -m.c.im) = (m.a.re * m.d.re - m.a.im * m.d.im) - (m.b.re * m.c.re - m.b.im * m.c.im)
  grind
 ·show (m.d.re * m.a.im + m.d.im * m.a.re) - (-m.b.re * -m.c.im + -m.b.im * -m.c.re) = (m.a.re * m.d.im + m.a.im * m.d.re) - (m.b.re * m.c.im + m.b.im * m.c.re)
  grind
theorem det_undoC (m:Mb):(Mb.mk m.d.conj m.b.neg.conj m.c.neg.conj m.a.conj m.t).det = m.det.conj:=by
 refine Cx.ext' ?_ ?_
 ·show (m.d.re * m.a.re - -m.d.im * -m.a.im) - (-m.b.re * -m.c.re - - -m.b.im * - -m.c.im) = (m.a.re * m.d.re - m.a.im * m.d.im) - (m.b.re * m.c.re - m.b.im * m.c.im)
  grind
 ·show (m.d.re * -m.a.im + -m.d.im * m.a.re) - (-m.b.re * - -m.c.im + - -m.b.im * -m.c.re) = -((m.a.re * m.d.im + m.a.im * m.d.re) - (m.b.re * m.c.im + m.b.im * m.c.re))
  grind
theorem undo_p0 {m:Mb} (p:m.det.zero = false) (h:m.t = false):(Mb.mk m.d m.b.neg m.c.neg m.a m.t).piv.zero = false:=det_piv (zero_eq (det_undo m) p)
theorem undo_p1 {m:Mb} (p:m.det.zero = false) (h:m.t = true):(Mb.mk m.d.conj m.b.neg.conj m.c.neg.conj m.a.conj m.t).piv.zero = false:=det_piv (zero_eq (det_undoC m) (by rw [zero_conj]; exact p))
theorem behind_1 {x y:Mb} {t:Bool} (h:x.t = true) (e:t = (x.t != y.t)):(Mb.mk ((x.a.mul y.a.conj).add (x.b.mul y.c.conj)) ((x.a.mul y.b.conj).add (x.b.mul y.d.conj)) ((x.c.mul y.a.conj).add (x.d.mul y.c.conj)) ((x.c.mul y.b.conj).add (x.d.mul y.d.conj)) t).nrm = x.behind y:=by
 subst e
 unfold Mb.behind Mb.dot Mb.cjM cjC
 simp only [if_pos h]
theorem behind_0 {x y:Mb} {t:Bool} (h:x.t = false) (e:t = (x.t != y.t)):(Mb.mk ((x.a.mul y.a).add (x.b.mul y.c)) ((x.a.mul y.b).add (x.b.mul y.d)) ((x.c.mul y.a).add (x.d.mul y.c)) ((x.c.mul y.b).add (x.d.mul y.d)) t).nrm = x.behind y:=by
 subst e
 have h' : ¬ x.t = true:=by rw [h]; decide
 unfold Mb.behind Mb.dot Mb.cjM cjC
 simp only [if_neg h']
theorem behind_p1 {x y:Mb} {t:Bool} (p:(x.dot (Mb.cjM x.t y)).piv.zero = false) (h:x.t = true):(Mb.mk ((x.a.mul y.a.conj).add (x.b.mul y.c.conj)) ((x.a.mul y.b.conj).add (x.b.mul y.d.conj)) ((x.c.mul y.a.conj).add (x.d.mul y.c.conj)) ((x.c.mul y.b.conj).add (x.d.mul y.d.conj)) t).piv.zero = false:=by
 unfold Mb.dot Mb.cjM cjC at p
 simp only [if_pos h] at p
 exact p
theorem behind_p0 {x y:Mb} {t:Bool} (p:(x.dot (Mb.cjM x.t y)).piv.zero = false) (h:x.t = false):(Mb.mk ((x.a.mul y.a).add (x.b.mul y.c)) ((x.a.mul y.b).add (x.b.mul y.d)) ((x.c.mul y.a).add (x.d.mul y.c)) ((x.c.mul y.b).add (x.d.mul y.d)) t).piv.zero = false:=by
 have h' : ¬ x.t = true:=by rw [h]; decide
 unfold Mb.dot Mb.cjM cjC at p
 simp only [if_neg h'] at p
 exact p
theorem val_eq (c:Ci) (z:Cx):(0:Rat) + c.a * z.norm + ((c.b.mul z).re + (c.b.mul z).re) + c.c = c.val z:=by unfold Ci.val; rw [Rat.zero_add]
def Ci.side (c:Ci) (p:Pn):Int:=if p.inf = true then c.a.num.sign else (c.val p.z).num.sign
theorem side_1 {c:Ci} {p:Pn} (h:p.inf = true):Value.int .i64 c.a.num.sign = .int .i64 (c.side p):=by unfold Ci.side; rw [if_pos h]
theorem side_0 {c:Ci} {p:Pn} (h:p.inf = false):Value.int .i64 (c.val p.z).num.sign = .int .i64 (c.side p):=by unfold Ci.side; rw [if_neg (by rw [h]; decide)]
theorem pcut_inf {p:Pn} (h:p.inf = true):Value.tuple #[.agg #[.bool true,.bool false,.string ⟨#[]⟩,.bool false,.string ⟨#[]⟩,.bool false,.string ⟨#[]⟩,.bool false,.string ⟨#[]⟩],.int .i64 0] = .tuple #[rpnV (pncut p),.int .i64 (pnerr p)]:=by
 have e:pnfits p = true:=by unfold pnfits; rw [h]; rfl
 unfold pncut pnerr pnR
 rw [if_pos e,if_pos e,if_pos h]
theorem pcut_num {p:Pn} (h:p.inf = false):Value.tuple #[.agg #[.bool false,.bool (gcut p.z).re.a.n,.string (gcut p.z).re.a.s,.bool (gcut p.z).re.b.n,.string (gcut p.z).re.b.s,.bool (gcut p.z).im.a.n,.string (gcut p.z).im.a.s,.bool (gcut p.z).im.b.n,.string (gcut p.z).im.b.s],.int .i64 (gerr p.z)] = .tuple #[rpnV (pncut p),.int .i64 (pnerr p)]:=by
 unfold pncut pnerr pnR gcut gerr pnfits
 rw [h]
 cases e:gfits (rg p.z) with
 | true=>simp
 | false=>simp
def Ci.dot (c d:Ci):Rat:=(c.a * d.c + d.a * c.c) * Rat.divInt (1:Int) (2:Int) - (c.b.mul d.b.conj).re
@[reducible] def Ci.times (c:Ci) (x:Rat):Ci:=⟨c.a * x,c.b.scale x,c.c * x⟩
def Ci.out (c:Ci):Ci:=⟨-c.a,c.b.neg,-c.c⟩
@[reducible] def Ci.rim (c:Ci):Ci:=⟨c.a,c.b.conj.neg,c.c⟩
def Ci.touch (c d:Ci):Bool:=decide (c.dot d = 1) && !decide (c = d.out)
theorem neg_one_mul (x:Rat):x * Rat.divInt (-1:Int) (1:Int) = -x:=by
 rw [divInt_one]
 show x * ((-1:Int):Rat) = -x
 have:(((-1:Int)):Rat) = -1:=rfl
 rw [this]; grind
theorem put_n1 {m:Mb} {p:Pn} (h:(!p.inf) = true) (ht:m.t = true):m.put p = ((m.a.mul p.z.conj).add m.b,(m.c.mul p.z.conj).add m.d):=by
 have h' : ¬ p.inf = true:=by cases e:p.inf <;> simp_all
 unfold Mb.put cjC
 rw [if_neg h', if_pos ht]
theorem put_n0 {m:Mb} {p:Pn} (h:(!p.inf) = true) (ht:m.t = false):m.put p = ((m.a.mul p.z).add m.b,(m.c.mul p.z).add m.d):=by
 have h' : ¬ p.inf = true:=by cases e:p.inf <;> simp_all
 unfold Mb.put cjC
 rw [if_neg h', if_neg (by rw [ht]; decide)]
theorem put_i {m:Mb} {p:Pn} (h:(!p.inf) = false):m.put p = (m.a,m.c):=by
 have h' : p.inf = true:=by cases e:p.inf <;> simp_all
 unfold Mb.put
 rw [if_pos h']
theorem send_T {m:Mb} {p:Pn} {a b:Cx} (e:m.put p = (a,b)) (h:b.zero = true):Pn.mk true ⟨0,0⟩ = m.send p:=by unfold Mb.send; rw [e,if_pos h]
theorem send_F {m:Mb} {p:Pn} {a b:Cx} (e:m.put p = (a,b)) (h:b.zero = false):Pn.mk false (a.div b) = m.send p:=by unfold Mb.send; rw [e,if_neg (by rw [h]; decide)]
theorem send_n1T {m:Mb} {p:Pn} (h:(!p.inf) = true) (ht:m.t = true) (hz:((m.c.mul p.z.conj).add m.d).zero = true):Pn.mk true ⟨0,0⟩ = m.send p:=send_T (put_n1 h ht) hz
theorem send_n1F {m:Mb} {p:Pn} (h:(!p.inf) = true) (ht:m.t = true) (hz:((m.c.mul p.z.conj).add m.d).zero = false):Pn.mk false (((m.a.mul p.z.conj).add m.b).div ((m.c.mul p.z.conj).add m.d)) = m.send p:=send_F (put_n1 h ht) hz
theorem send_n0T {m:Mb} {p:Pn} (h:(!p.inf) = true) (ht:m.t = false) (hz:((m.c.mul p.z).add m.d).zero = true):Pn.mk true ⟨0,0⟩ = m.send p:=send_T (put_n0 h ht) hz
theorem send_n0F {m:Mb} {p:Pn} (h:(!p.inf) = true) (ht:m.t = false) (hz:((m.c.mul p.z).add m.d).zero = false):Pn.mk false (((m.a.mul p.z).add m.b).div ((m.c.mul p.z).add m.d)) = m.send p:=send_F (put_n0 h ht) hz
theorem send_iT {m:Mb} {p:Pn} (h:(!p.inf) = false) (hz:m.c.zero = true):Pn.mk true ⟨0,0⟩ = m.send p:=send_T (put_i h) hz
theorem send_iF {m:Mb} {p:Pn} (h:(!p.inf) = false) (hz:m.c.zero = false):Pn.mk false (m.a.div m.c) = m.send p:=send_F (put_i h) hz
theorem mul_n {x y:Cx} {n:Nat} (h:ht x.re + ht x.im + (ht y.re + ht y.im) ≤ n):ht (x.mul y).re ≤ n ∧ ht (x.mul y).im ≤ n:=by
 have:=hc_mul x y
 omega
theorem cj_n {x y:Cx} {n:Nat} (h:ht x.re + ht x.im + (ht y.re + ht y.im) ≤ n):ht (x.mul y.conj).re ≤ n ∧ ht (x.mul y.conj).im ≤ n:=by
 have h1:=hc_conj y
 exact mul_n (by omega)
theorem add_n {x y:Cx} {n m:Nat} (h:ht x.re ≤ n ∧ ht x.im ≤ n) (h' : ht y.re ≤ m ∧ ht y.im ≤ m):ht (x.add y).re ≤ n + m ∧ ht (x.add y).im ≤ n + m:=by
 have:=hc_add x y
 omega
end Go.Proofs.YtcpjdjnaipbieaaGreat
namespace Go.Proofs.YtcpjdjnaipbieaaGreat
open Go.RowKit Rgn Eng
set_option maxHeartbeats 8000000
set_option maxRecDepth 100000
variable {S:Nat → Prop} {W:World}
theorem eSame {v0 v1:Value} (x:Cx) (y:Cx) (t0:(NumP x).p S v0 W) (t1:(NumP y).p S v1 W) (p0:ht x.re + ht x.im + ht y.re + ht y.im ≤ 17179869184):Calls Tryz.prog 179 #[v0,v1] W (RetV (.bool ((x.sub y).zero)) W):=by
 have h1:=hc_sub x y
 refine Run.goP (S:=S) ((Pack.nil.s spNum t0).s spNum t1) Tryz.func179 rfl ?_
 refine Run.cR spNum (fun _ _ _ H=>eSub x y (NumP.mk (H.f 0) (H.f 1)) (NumP.mk (H.f 2) (H.f 3)) p0) ?_
 refine Run.cV [.bool ((x.sub y).zero)] kb (fun _ _ _ H=>eZero (x.sub y) (NumP.mk (H.f 4) (H.f 5))) ?_
 exact Run.rV rfl
theorem rgSame {v0 v1:Value} (c:Ci) (d:Ci) (t0:(RingP c).p S v0 W) (t1:(RingP d).p S v1 W) (p0:ht c.a + ht c.b.re + ht c.b.im + ht c.c + (ht d.a + ht d.b.re + ht d.b.im + ht d.c) ≤ 1073741824):Calls Tryz.prog 241 #[v0,v1] W (RetV (.bool (decide (c = d))) W):=by
 refine Run.goP (S:=S) ((Pack.nil.s spRing t0).s spRing t1) Tryz.func241 rfl ?_
 refine Run.cV [.int .i64 (icmp (c.a.num * (d.a.den:Int)) (d.a.num * (c.a.den:Int)))] kb (fun _ _ _ H=>qCmp c.a d.a (H.f 0) (H.f 4) (by first | omega | (dsimp only at *; omega))) ?_
 refine Run.ic (icmp (c.a.num * (d.a.den:Int)) (d.a.num * (c.a.den:Int))) 0 ((icmp (c.a.num * (d.a.den:Int)) (d.a.num * (c.a.den:Int))) == 0) ?_
 refine (Bool.eq_false_or_eq_true ((icmp (c.a.num * (d.a.den:Int)) (d.a.num * (c.a.den:Int))) == 0)).elim (fun c1=>?_) (fun c1=>?_)
 · refine Run.kn c1 ?_
   refine Run.cV [.bool ((c.b.sub d.b).zero)] kb (fun _ _ _ H=>eSame c.b d.b (NumP.mk (H.f 1) (H.f 2)) (NumP.mk (H.f 5) (H.f 6)) (by first | omega | (dsimp only at *; omega))) ?_
   refine (Bool.eq_false_or_eq_true ((c.b.sub d.b).zero)).elim (fun c2=>?_) (fun c2=>?_)
   · refine Run.kn c2 ?_
     refine Run.cV [.int .i64 (icmp (c.c.num * (d.c.den:Int)) (d.c.num * (c.c.den:Int)))] kb (fun _ _ _ H=>qCmp c.c d.c (H.f 3) (H.f 7) (by first | omega | (dsimp only at *; omega))) ?_
     refine Run.ic (icmp (c.c.num * (d.c.den:Int)) (d.c.num * (c.c.den:Int))) 0 ((icmp (c.c.num * (d.c.den:Int)) (d.c.num * (c.c.den:Int))) == 0) ?_
     exact Run.rV (V' := .bool ((icmp (c.c.num * (d.c.den:Int)) (d.c.num * (c.c.den:Int))) == 0)) (by rw [← sm_dec]; unfold Ci.sm; rw [c1,c2]; rfl)
   · refine Run.kn c2 ?_
     exact Run.rV (V' := .bool false) (by rw [← sm_dec]; unfold Ci.sm; rw [c1,c2]; rfl)
 · refine Run.kn c1 ?_
   exact Run.rV (V' := .bool false) (by rw [← sm_dec]; unfold Ci.sm; rw [c1]; rfl)
end Go.Proofs.YtcpjdjnaipbieaaGreat
namespace Go.Proofs.YtcpjdjnaipbieaaGreat
open Go.RowKit Rgn Eng
set_option maxHeartbeats 8000000
set_option maxRecDepth 100000
variable {S:Nat → Prop} {W:World}
theorem rgTold {v0:Value} (c:Ci) (t0:(RingP c).p S v0 W) (p0:ht c.a + ht c.b.re + ht c.b.im + ht c.c ≤ 1073741824) (p1:c.flat = false):Calls Tryz.prog 142 #[v0] W (RetV (.tuple #[rciV (cicut c.nrm),.int .i64 (cierr c.nrm)]) W):=by
 have h1:=nrm_ht c
 have h2:=piv_ht c
 unfold Ci.hh Cx.hh at h2
 refine Run.goP (S:=S) (Pack.nil.s spRing t0) Tryz.func142 rfl ?_
 refine Run.cR spRing (fun _ _ _ H=>rgNorm c (RingP.mk (H.f 0) (H.f 1) (H.f 2) (H.f 3)) p0 p1) ?_
 refine Run.cV ((rfC (fcut c.nrm.a)).toList ++ [.int .i64 (ferr c.nrm.a)]) (.tup [.agg (ks 0 4),.o (.k 4)]) (fun _ _ _ H=>eFrac c.nrm.a (RatP.n (H.f 4)) (by first | omega | (dsimp only at *; omega) | exact p1)) ?_
 refine Run.cV ((rgC (gcut c.nrm.b)).toList ++ [.int .i64 (gerr c.nrm.b)]) (.tup [.agg (ks 0 8),.o (.k 8)]) (fun _ _ _ H=>eTold c.nrm.b (NumP.mk (H.f 5) (H.f 6)) (by first | omega | (dsimp only at *; omega) | exact p1)) ?_
 refine Run.cV ((rfC (fcut c.nrm.c)).toList ++ [.int .i64 (ferr c.nrm.c)]) (.tup [.agg (ks 0 4),.o (.k 4)]) (fun _ _ _ H=>eFrac c.nrm.c (RatP.n (H.f 7)) (by first | omega | (dsimp only at *; omega) | exact p1)) ?_
 refine Run.ic (ferr c.nrm.a) 0 ((ferr c.nrm.a) != 0) ?_
 refine (Bool.eq_false_or_eq_true ((ferr c.nrm.a) != 0)).elim (fun c1=>?_) (fun c1=>?_)
 · refine Run.kn c1 ?_
   exact Run.rV (ccut_no (.inl c1))
 · refine Run.kn c1 ?_
   refine Run.ic (gerr c.nrm.b) 0 ((gerr c.nrm.b) != 0) ?_
   refine (Bool.eq_false_or_eq_true ((gerr c.nrm.b) != 0)).elim (fun c2=>?_) (fun c2=>?_)
   · refine Run.kn c2 ?_
     exact Run.rV (ccut_no (.inr (.inl c2)))
   · refine Run.kn c2 ?_
     refine Run.ic (ferr c.nrm.c) 0 ((ferr c.nrm.c) != 0) ?_
     refine (Bool.eq_false_or_eq_true ((ferr c.nrm.c) != 0)).elim (fun c3=>?_) (fun c3=>?_)
     · refine Run.kn c3 ?_
       exact Run.rV (ccut_no (.inr (.inr c3)))
     · refine Run.kn c3 ?_
       exact Run.rV (ccut_yes c1 c2 c3)
theorem mtDet {v0:Value} (m:Mb) (t0:(MatP m).p S v0 W) (p0:ht m.a.re + ht m.a.im + ht m.b.re + ht m.b.im + ht m.c.re + ht m.c.im + ht m.d.re + ht m.d.im ≤ 1073741824):Calls Tryz.prog 219 #[v0] W (Ret (NumP m.det) S W):=by
 have h1:=hc_mul m.a m.d
 have h2:=hc_mul m.b m.c
 refine Run.goP (S:=S) (Pack.nil.s spMat t0) Tryz.func219 rfl ?_
 refine Run.dr ?_
 refine RunD.cR spNum (fun _ _ _ H=>eNMul m.a m.d (NumP.mk (H.f 0) (H.f 1)) (NumP.mk (H.f 6) (H.f 7)) (by first | omega | (dsimp only at *; omega))) ?_
 refine RunD.cR spNum (fun _ _ _ H=>eNMul m.b m.c (NumP.mk (H.f 2) (H.f 3)) (NumP.mk (H.f 4) (H.f 5)) (by first | omega | (dsimp only at *; omega))) ?_
 refine RunD.cR spNum (fun _ _ _ H=>eSub (m.a.mul m.d) (m.b.mul m.c) (NumP.mk (H.f 8) (H.f 9)) (NumP.mk (H.f 10) (H.f 11)) (by first | omega | (dsimp only at *; omega))) ?_
 refine RunD.en ?_
 exact Run.rR (fun _ _ _ H=>NumP.mk (H.f 12) (H.f 13))
theorem mtNorm {v0:Value} (m:Mb) (t0:(MatP m).p S v0 W) (p0:ht m.a.re + ht m.a.im + ht m.b.re + ht m.b.im + ht m.c.re + ht m.c.im + ht m.d.re + ht m.d.im ≤ 536870912) (p1:m.piv.zero = false):Calls Tryz.prog 239 #[v0] W (Ret (MatP m.nrm) S W):=by
 refine Run.goP (S:=S) (Pack.nil.s spMat t0) Tryz.func239 rfl ?_
 refine Run.cV [.bool m.c.zero] kb (fun _ _ _ H=>eZero m.c (NumP.mk (H.f 4) (H.f 5))) ?_
 refine (Bool.eq_false_or_eq_true (m.c.zero)).elim (fun c1=>?_) (fun c1=>?_)
 · refine Run.kn c1 ?_
   refine Run.dr ?_
   refine RunD.cR spNum (fun _ _ _ H=>eDiv m.a m.d (NumP.mk (H.f 0) (H.f 1)) (NumP.mk (H.f 6) (H.f 7)) (by first | omega | (dsimp only at *; omega) | exact mnz_1 p1 c1 | exact mnz_0 c1) (by first | omega | (dsimp only at *; omega) | exact mnz_1 p1 c1 | exact mnz_0 c1)) ?_
   refine RunD.cR spNum (fun _ _ _ H=>eDiv m.b m.d (NumP.mk (H.f 2) (H.f 3)) (NumP.mk (H.f 6) (H.f 7)) (by first | omega | (dsimp only at *; omega) | exact mnz_1 p1 c1 | exact mnz_0 c1) (by first | omega | (dsimp only at *; omega) | exact mnz_1 p1 c1 | exact mnz_0 c1)) ?_
   refine RunD.cR spNum (fun _ _ _ H=>eDiv m.c m.d (NumP.mk (H.f 4) (H.f 5)) (NumP.mk (H.f 6) (H.f 7)) (by first | omega | (dsimp only at *; omega) | exact mnz_1 p1 c1 | exact mnz_0 c1) (by first | omega | (dsimp only at *; omega) | exact mnz_1 p1 c1 | exact mnz_0 c1)) ?_
   refine RunD.cR spNum (fun _ _ _ H=>eDiv m.d m.d (NumP.mk (H.f 6) (H.f 7)) (NumP.mk (H.f 6) (H.f 7)) (by first | omega | (dsimp only at *; omega) | exact mnz_1 p1 c1 | exact mnz_0 c1) (by first | omega | (dsimp only at *; omega) | exact mnz_1 p1 c1 | exact mnz_0 c1)) ?_
   refine RunD.en ?_
   exact Run.rR (fun _ _ _ H=>VPe (φ:=MatP) (mnrm_1 c1) (MatP.mk (H.f 8) (H.f 9) (H.f 10) (H.f 11) (H.f 12) (H.f 13) (H.f 14) (H.f 15)))
 · refine Run.kn c1 ?_
   refine Run.dr ?_
   refine RunD.cR spNum (fun _ _ _ H=>eDiv m.a m.c (NumP.mk (H.f 0) (H.f 1)) (NumP.mk (H.f 4) (H.f 5)) (by first | omega | (dsimp only at *; omega) | exact mnz_1 p1 c1 | exact mnz_0 c1) (by first | omega | (dsimp only at *; omega) | exact mnz_1 p1 c1 | exact mnz_0 c1)) ?_
   refine RunD.cR spNum (fun _ _ _ H=>eDiv m.b m.c (NumP.mk (H.f 2) (H.f 3)) (NumP.mk (H.f 4) (H.f 5)) (by first | omega | (dsimp only at *; omega) | exact mnz_1 p1 c1 | exact mnz_0 c1) (by first | omega | (dsimp only at *; omega) | exact mnz_1 p1 c1 | exact mnz_0 c1)) ?_
   refine RunD.cR spNum (fun _ _ _ H=>eDiv m.c m.c (NumP.mk (H.f 4) (H.f 5)) (NumP.mk (H.f 4) (H.f 5)) (by first | omega | (dsimp only at *; omega) | exact mnz_1 p1 c1 | exact mnz_0 c1) (by first | omega | (dsimp only at *; omega) | exact mnz_1 p1 c1 | exact mnz_0 c1)) ?_
   refine RunD.cR spNum (fun _ _ _ H=>eDiv m.d m.c (NumP.mk (H.f 6) (H.f 7)) (NumP.mk (H.f 4) (H.f 5)) (by first | omega | (dsimp only at *; omega) | exact mnz_1 p1 c1 | exact mnz_0 c1) (by first | omega | (dsimp only at *; omega) | exact mnz_1 p1 c1 | exact mnz_0 c1)) ?_
   refine RunD.en ?_
   exact Run.rR (fun _ _ _ H=>VPe (φ:=MatP) (mnrm_0 c1) (MatP.mk (H.f 8) (H.f 9) (H.f 10) (H.f 11) (H.f 12) (H.f 13) (H.f 14) (H.f 15)))
end Go.Proofs.YtcpjdjnaipbieaaGreat
namespace Go.Proofs.YtcpjdjnaipbieaaGreat
open Go.RowKit Rgn
noncomputable def valM (r:RF):Rat:=if h:fmay r = true then (fmay_ex h).choose else 0
theorem valM_rf {q:Rat} (h:fmay (rf q) = true):valM (rf q) = q:=by
 unfold valM
 rw [dif_pos h]
 exact (rf_inj (fmay_ex h).choose_spec).symm
theorem ratw_yes {x y:Int} (h0:¬ y < 0) (h1:¬ y.natAbs = 0) (h2:¬ (1024:Int) < (((bS x.natAbs).size:Nat):Int)) (h3:¬ (1024:Int) < (((bS y.natAbs).size:Nat):Int))
  (h4:((icmp ((Rat.divInt x y).num) x) != 0) = false) (h5:((icmp ((Rat.divInt x y).den:Int) y) != 0) = false):fmay (RF.mk (rw x) (rw y)) = true:=by
 have e4:(Rat.divInt x y).num = x:=icmp0.1 (by simpa using h4)
 have e5:((Rat.divInt x y).den:Int) = y:=icmp0.1 (by simpa using h5)
 have e:RF.mk (rw x) (rw y) = rf (Rat.divInt x y):=by
  show _ = RF.mk (rw (Rat.divInt x y).num) (rw ((Rat.divInt x y).den:Int))
  rw [e4,e5]
 have hf:fits (RF.mk (rw x) (rw y)) = true:=by
  unfold fits
  show (decide ((bS x.natAbs).size ≤ 1024) && decide ((bS y.natAbs).size ≤ 1024)) = true
  rw [decide_eq_true (by omega),decide_eq_true (by omega)]; rfl
 unfold fmay
 rw [hf,e,fformed_rf]; rfl
def Mb.form (m:Mb):Bool:=(m.c.sub (Cx.ofInt (1:Int) (0:Int))).zero || (m.c.zero && (m.d.sub (Cx.ofInt (1:Int) (0:Int))).zero)
open Classical in
noncomputable def ciOk (r:RCi):Bool:=decide (∃ c,r = rci c ∧ cifits (rci c) = true ∧ c.pos = true ∧ c.nrm = c)
open Classical in
open Classical in
noncomputable def mbOk (r:RMb):Bool:=decide (∃ m,r = rmb m ∧ mbfits (rmb m) = true ∧ m.det.zero = false ∧ m.form = true)
open Classical in
noncomputable def pnOk (r:RPn):Bool:=if r.inf = true then decide (r = RPn.mk true rz) else gmay r.z
theorem spot_1 {r:RPn} (h:r.inf = true):Value.bool (decide (r = RPn.mk true rz)) = .bool (pnOk r):=by unfold pnOk; rw [if_pos h]
theorem spot_0 {r:RPn} (h:r.inf = false):Value.bool (gmay r.z) = .bool (pnOk r):=by unfold pnOk; rw [if_neg (by rw [h]; decide)]
theorem ciOk_ex {r:RCi} (h:ciOk r = true):∃ c,r = rci c ∧ cifits (rci c) = true ∧ c.pos = true ∧ c.nrm = c:=by
 unfold ciOk at h; classical exact of_decide_eq_true h
theorem mbOk_ex {r:RMb} (h:mbOk r = true):∃ m,r = rmb m ∧ mbfits (rmb m) = true ∧ m.det.zero = false ∧ m.form = true:=by
 unfold mbOk at h; classical exact of_decide_eq_true h
theorem ciOk_c {c:Ci} (h:ciOk (rci c) = true):cifits (rci c) = true ∧ c.pos = true ∧ c.nrm = c:=by
 obtain ⟨d,e,h⟩:=ciOk_ex h
 obtain rfl:=rci_inj e
 exact h
theorem mbOk_c {c:Mb} (h:mbOk (rmb c) = true):mbfits (rmb c) = true ∧ c.det.zero = false ∧ c.form = true:=by
 obtain ⟨d,e,h⟩:=mbOk_ex h
 obtain rfl:=rmb_inj e
 exact h
theorem ci_of {r:RCi} (h1:fmay r.a = true) (h2:gmay r.b = true) (h3:fmay r.c = true):∃ c,r = rci c ∧ cifits (rci c) = true:=by
 obtain ⟨a,b,c⟩:=r
 obtain ⟨x,rfl⟩:=fmay_ex h1
 obtain ⟨y,rfl⟩:=gmay_ex h2
 obtain ⟨z,rfl⟩:=fmay_ex h3
 refine ⟨⟨x,y,z⟩,rfl,?_⟩
 show (fits (rf x) && gfits (rg y) && fits (rf z)) = true
 rw [gmay_rg] at h2
 rw [(and_tt h1).1,h2,(and_tt h3).1]; rfl
theorem mb_of {r:RMb} (h:(gmay r.a && gmay r.b && gmay r.c && gmay r.d) = true):∃ m,r = rmb m ∧ mbfits (rmb m) = true:=by
 obtain ⟨a,b,c,d,t⟩:=r
 obtain ⟨h1,h2,h3,h4⟩:=and_4 h
 obtain ⟨x,rfl⟩:=gmay_ex h1
 obtain ⟨y,rfl⟩:=gmay_ex h2
 obtain ⟨z,rfl⟩:=gmay_ex h3
 obtain ⟨u,rfl⟩:=gmay_ex h4
 refine ⟨⟨x,y,z,u,t⟩,rfl,?_⟩
 rw [gmay_rg] at h1 h2 h3 h4
 show (gfits (rg x) && gfits (rg y) && gfits (rg z) && gfits (rg u)) = true
 rw [h1,h2,h3,h4]; rfl
theorem ciOk_no {r:RCi} (h:ciOk r = false):¬ ∃ c,r = rci c ∧ cifits (rci c) = true ∧ c.pos = true ∧ c.nrm = c:=by unfold ciOk at h; classical exact of_decide_eq_false h
theorem mbOk_no {r:RMb} (h:mbOk r = false):¬ ∃ m,r = rmb m ∧ mbfits (rmb m) = true ∧ m.det.zero = false ∧ m.form = true:=by unfold mbOk at h; classical exact of_decide_eq_false h
theorem ciOk_yes {c:Ci} (h1:cifits (rci c) = true) (h2:c.pos = true) (h3:c.nrm = c):ciOk (rci c) = true:=by unfold ciOk; classical exact decide_eq_true ⟨c,rfl,h1,h2,h3⟩
theorem mbOk_yes {m:Mb} (h1:mbfits (rmb m) = true) (h2:m.det.zero = false) (h3:m.form = true):mbOk (rmb m) = true:=by unfold mbOk; classical exact decide_eq_true ⟨m,rfl,h1,h2,h3⟩
theorem ht_dvI {a b:Int} (h:0 < b) {n:Nat} (h1:max (hi a) (hi b) ≤ n):ht (Rat.divInt a b) ≤ n + 1:=by
 obtain ⟨m,rfl⟩:=Int.eq_ofNat_of_zero_le (Int.le_of_lt h)
 have e:Rat.divInt a (m:Int) = mkRat a m:=rfl
 rw [e]
 have h2:=hi_bl a
 have h3:=hi_bl (m:Int)
 rw [Int.natAbs_natCast] at h3
 exact ht_mkRat a m (by omega) (by omega) (by omega)
theorem valM_no {r:RF} (h:fmay r = false):valM r = 0:=by
 unfold valM
 rw [dif_neg (by rw [h]; decide)]
theorem valM_ht (r:RF):ht (valM r) ≤ 8200:=by
 cases h:fmay r with
 | false=>rw [valM_no h,ht_zero]; omega
 | true =>
  obtain ⟨q,rfl⟩:=fmay_ex h
  rw [valM_rf h]
  exact fits_ht_le (and_tt h).1
noncomputable def gvm (r:RG):Cx:=⟨valM r.re,valM r.im⟩
theorem gvm_rg {z:Cx} (h:gmay (rg z) = true):gvm (rg z) = z:=by
 obtain ⟨h1,h2⟩:=and_tt h
 exact Cx.ext' (valM_rf h1) (valM_rf h2)
noncomputable def mvm (r:RMb):Mb:=⟨gvm r.a,gvm r.b,gvm r.c,gvm r.d,r.t⟩
theorem mvm_ht (r:RMb):(ht (gvm r.a).re ≤ 8200 ∧ ht (gvm r.a).im ≤ 8200) ∧ (ht (gvm r.b).re ≤ 8200 ∧ ht (gvm r.b).im ≤ 8200) ∧ (ht (gvm r.c).re ≤ 8200 ∧ ht (gvm r.c).im ≤ 8200) ∧ (ht (gvm r.d).re ≤ 8200 ∧ ht (gvm r.d).im ≤ 8200) :=
 ⟨⟨valM_ht _,valM_ht _⟩,⟨valM_ht _,valM_ht _⟩,⟨valM_ht _,valM_ht _⟩,⟨valM_ht _,valM_ht _⟩⟩
theorem mvm_rmb {m:Mb} (h:(gmay (rg m.a) && gmay (rg m.b) && gmay (rg m.c) && gmay (rg m.d)) = true):mvm (rmb m) = m:=by
 obtain ⟨h1,h2,h3,h4⟩:=and_4 h
 show Mb.mk (gvm (rg m.a)) (gvm (rg m.b)) (gvm (rg m.c)) (gvm (rg m.d)) m.t = m
 rw [gvm_rg h1,gvm_rg h2,gvm_rg h3,gvm_rg h4]
theorem form_1 {m:Mb} (h:(m.c.sub (Cx.ofInt (1:Int) (0:Int))).zero = true):m.form = true:=by unfold Mb.form; rw [h]; rfl
theorem form_2 {m:Mb} (h:(m.c.sub (Cx.ofInt (1:Int) (0:Int))).zero = false) (h' : m.c.zero = false):m.form = false:=by unfold Mb.form; rw [h,h']; rfl
theorem form_3 {m:Mb} (h:(m.c.sub (Cx.ofInt (1:Int) (0:Int))).zero = false) (h' : m.c.zero = true):m.form = (m.d.sub (Cx.ofInt (1:Int) (0:Int))).zero:=by unfold Mb.form; rw [h,h']; rfl
end Go.Proofs.YtcpjdjnaipbieaaGreat
namespace Go.Proofs.YtcpjdjnaipbieaaGreat
open Go.RowKit Rgn
abbrev unitK:Ci:=⟨((1:Int):Rat),Cx.ofInt (0:Int) (0:Int),((-1:Int):Rat)⟩
abbrev lineK:Ci:=⟨((0:Int):Rat),Cx.ofInt (0:Int) (1:Int),((0:Int):Rat)⟩
end Go.Proofs.YtcpjdjnaipbieaaGreat
namespace Go.Proofs.YtcpjdjnaipbieaaGreat
open Go.RowKit Rgn Eng
set_option maxHeartbeats 8000000
set_option maxRecDepth 100000
variable {S:Nat → Prop} {W:World}
theorem l14Num (n:Int):Calls Tryz.prog 27 #[.int .i64 n] W (RetV (.int .i64 n) W):=by
 refine Run.goP (S:=Z0) (Pack.nil.k (.int .i64 n) [.int .i64 n] kb) Tryz.func27 rfl ?_
 exact Run.rV rfl
theorem l14Unit  : Calls Tryz.prog 55 #[] W (RetV (ciV unitK) W):=by
 refine Run.goP (S:=Z0) Pack.nil Tryz.func55 rfl ?_
 refine Run.cV (fC (1:Rat)).toList (.s (.agg (ks 0 4))) (fun _ _ _ H=>fInt 1 (by decide) (by decide)) ?_
 refine Run.cV (gC (Cx.ofInt 0 0)).toList (.s (.agg (ks 0 8))) (fun _ _ _ H=>cInt 0 0 (by decide) (by decide) (by decide) (by decide)) ?_
 refine Run.cV (fC ((-1):Rat)).toList (.s (.agg (ks 0 4))) (fun _ _ _ H=>fInt (-1) (by decide) (by decide)) ?_
 exact Run.rV rfl
theorem l14Line  : Calls Tryz.prog 58 #[] W (RetV (ciV lineK) W):=by
 refine Run.goP (S:=Z0) Pack.nil Tryz.func58 rfl ?_
 refine Run.cV (fC (0:Rat)).toList (.s (.agg (ks 0 4))) (fun _ _ _ H=>fInt 0 (by decide) (by decide)) ?_
 refine Run.cV (gC (Cx.ofInt 0 1)).toList (.s (.agg (ks 0 8))) (fun _ _ _ H=>cInt 0 1 (by decide) (by decide) (by decide) (by decide)) ?_
 refine Run.cV (fC (0:Rat)).toList (.s (.agg (ks 0 4))) (fun _ _ _ H=>fInt 0 (by decide) (by decide)) ?_
 exact Run.rV rfl
end Go.Proofs.YtcpjdjnaipbieaaGreat
namespace Go.Proofs.YtcpjdjnaipbieaaGreat
open Go.RowKit Rgn
theorem mbfits_no {m:Mb} (h:((gerr m.a) != 0) = true ∨ ((gerr m.b) != 0) = true ∨ ((gerr m.c) != 0) = true ∨ ((gerr m.d) != 0) = true):mbfits (rmb m) = false:=by
 show (gfits (rg m.a) && gfits (rg m.b) && gfits (rg m.c) && gfits (rg m.d)) = false
 rcases h with h | h | h | h <;> rw [gerr_1 h] <;> simp
theorem gerr_4 {x:Cx} (h:((gerr x) != 0) = true):gerr x = 4:=by unfold gerr; rw [if_neg (by rw [gerr_1 h]; decide)]
theorem mcut_no {m:Mb} {e:Int} (he:e = 4) (h:mbfits (rmb m) = false):Value.tuple #[.agg zMb,.int .i64 e] = .tuple #[rmbV (mbcut m),.int .i64 (mberr m)]:=by
 subst he
 unfold mbcut mberr
 rw [if_neg (by rw [h]; decide),if_neg (by rw [h]; decide)]
theorem mcut_1 {m:Mb} (h:((gerr m.a) != 0) = true):Value.tuple #[.agg zMb,.int .i64 (gerr m.a)] = .tuple #[rmbV (mbcut m),.int .i64 (mberr m)]:=mcut_no (gerr_4 h) (mbfits_no (.inl h))
theorem mcut_2 {m:Mb} (h:((gerr m.b) != 0) = true):Value.tuple #[.agg zMb,.int .i64 (gerr m.b)] = .tuple #[rmbV (mbcut m),.int .i64 (mberr m)]:=mcut_no (gerr_4 h) (mbfits_no (.inr (.inl h)))
theorem mcut_3 {m:Mb} (h:((gerr m.c) != 0) = true):Value.tuple #[.agg zMb,.int .i64 (gerr m.c)] = .tuple #[rmbV (mbcut m),.int .i64 (mberr m)]:=mcut_no (gerr_4 h) (mbfits_no (.inr (.inr (.inl h))))
theorem mcut_4 {m:Mb} (h:((gerr m.d) != 0) = true):Value.tuple #[.agg zMb,.int .i64 (gerr m.d)] = .tuple #[rmbV (mbcut m),.int .i64 (mberr m)]:=mcut_no (gerr_4 h) (mbfits_no (.inr (.inr (.inr h))))
theorem gcut_ok {x:Cx} (h:gfits (rg x) = true):gcut x = rg x:=by unfold gcut; rw [if_pos h]
theorem mcut_y {m:Mb} (h1:((gerr m.a) != 0) = false) (h2:((gerr m.b) != 0) = false) (h3:((gerr m.c) != 0) = false) (h4:((gerr m.d) != 0) = false):Value.tuple #[.agg (rmbC (RMb.mk (gcut m.a) (gcut m.b) (gcut m.c) (gcut m.d) m.t)),.int .i64 0] = .tuple #[rmbV (mbcut m),.int .i64 (mberr m)]:=by
 have e:mbfits (rmb m) = true:=by
  show (gfits (rg m.a) && gfits (rg m.b) && gfits (rg m.c) && gfits (rg m.d)) = true
  rw [gerr_0 h1,gerr_0 h2,gerr_0 h3,gerr_0 h4]; rfl
 unfold mbcut mberr
 rw [if_pos e,if_pos e,gcut_ok (gerr_0 h1),gcut_ok (gerr_0 h2),gcut_ok (gerr_0 h3),gcut_ok (gerr_0 h4)]
end Go.Proofs.YtcpjdjnaipbieaaGreat
namespace Go.Proofs.YtcpjdjnaipbieaaGreat
open Go.RowKit Rgn Eng
set_option maxHeartbeats 4000000
set_option maxRecDepth 100000
variable {S:Nat → Prop} {W:World}
noncomputable abbrev tldC (x:Cx):List Value:=(rgC (gcut x)).toList ++ [.int .i64 (gerr x)]
abbrev shT:SV:=.tup [.agg (ks 0 8),.o (.k 8)]
theorem mtTold {v0:Value} (m:Mb) (t0:(MatP m).p S v0 W) (p0:ht m.a.re + ht m.a.im + ht m.b.re + ht m.b.im + ht m.c.re + ht m.c.im + ht m.d.re + ht m.d.im ≤ 67108864) (p1:m.piv.zero = false) :
  Calls Tryz.prog 145 #[v0] W (RetV (.tuple #[.agg #[.bool ((((mbcut m.nrm).a).re).a).n,.string ((((mbcut m.nrm).a).re).a).s,.bool ((((mbcut m.nrm).a).re).b).n,.string ((((mbcut m.nrm).a).re).b).s,.bool ((((mbcut m.nrm).a).im).a).n,.string ((((mbcut m.nrm).a).im).a).s,.bool ((((mbcut m.nrm).a).im).b).n,.string ((((mbcut m.nrm).a).im).b).s,.bool ((((mbcut m.nrm).b).re).a).n,.string ((((mbcut m.nrm).b).re).a).s,.bool ((((mbcut m.nrm).b).re).b).n,.string ((((mbcut m.nrm).b).re).b).s,.bool ((((mbcut m.nrm).b).im).a).n,.string ((((mbcut m.nrm).b).im).a).s,.bool ((((mbcut m.nrm).b).im).b).n,.string ((((mbcut m.nrm).b).im).b).s,.bool ((((mbcut m.nrm).c).re).a).n,.string ((((mbcut m.nrm).c).re).a).s,.bool ((((mbcut m.nrm).c).re).b).n,.string ((((mbcut m.nrm).c).re).b).s,.bool ((((mbcut m.nrm).c).im).a).n,.string ((((mbcut m.nrm).c).im).a).s,.bool ((((mbcut m.nrm).c).im).b).n,.string ((((mbcut m.nrm).c).im).b).s,.bool ((((mbcut m.nrm).d).re).a).n,.string ((((mbcut m.nrm).d).re).a).s,.bool ((((mbcut m.nrm).d).re).b).n,.string ((((mbcut m.nrm).d).re).b).s,.bool ((((mbcut m.nrm).d).im).a).n,.string ((((mbcut m.nrm).d).im).a).s,.bool ((((mbcut m.nrm).d).im).b).n,.string ((((mbcut m.nrm).d).im).b).s,.bool ((mbcut m.nrm).t)],.int .i64 (mberr m.nrm)]) W):=by
 have h1:=mnrm_ht m
 have h2:=mpiv_ht m
 unfold Cx.hh at h1
 unfold Mb.hh Cx.hh at h2
 refine Run.goP (Pack.nil.s spMat t0) Tryz.func145 rfl ?_
 refine Run.cR spMat (fun β ℓ w H=>mtNorm m (MatP.mk (H.f 0) (H.f 1) (H.f 2) (H.f 3) (H.f 4) (H.f 5) (H.f 6) (H.f 7)) (by omega) p1) ?_
 refine Run.cV (tldC m.nrm.a) shT (fun β ℓ w H=>eTold m.nrm.a (NumP.mk (H.f 8) (H.f 9)) (by omega)) ?_
 refine Run.ic (gerr m.nrm.a) 0 (gerr m.nrm.a != 0) ?_
 rcases Bool.eq_false_or_eq_true (gerr m.nrm.a != 0) with c1 | c1
 · refine Run.kn c1 ?_
   exact Run.rV (mcut_1 c1)
 refine Run.kn c1 ?_
 refine Run.cV (tldC m.nrm.b) shT (fun β ℓ w H=>eTold m.nrm.b (NumP.mk (H.f 10) (H.f 11)) (by omega)) ?_
 refine Run.ic (gerr m.nrm.b) 0 (gerr m.nrm.b != 0) ?_
 rcases Bool.eq_false_or_eq_true (gerr m.nrm.b != 0) with c2 | c2
 · refine Run.kn c2 ?_
   exact Run.rV (mcut_2 c2)
 refine Run.kn c2 ?_
 refine Run.cV (tldC m.nrm.c) shT (fun β ℓ w H=>eTold m.nrm.c (NumP.mk (H.f 12) (H.f 13)) (by omega)) ?_
 refine Run.ic (gerr m.nrm.c) 0 (gerr m.nrm.c != 0) ?_
 rcases Bool.eq_false_or_eq_true (gerr m.nrm.c != 0) with c3 | c3
 · refine Run.kn c3 ?_
   exact Run.rV (mcut_3 c3)
 refine Run.kn c3 ?_
 refine Run.cV (tldC m.nrm.d) shT (fun β ℓ w H=>eTold m.nrm.d (NumP.mk (H.f 14) (H.f 15)) (by omega)) ?_
 refine Run.ic (gerr m.nrm.d) 0 (gerr m.nrm.d != 0) ?_
 rcases Bool.eq_false_or_eq_true (gerr m.nrm.d != 0) with c4 | c4
 · refine Run.kn c4 ?_
   exact Run.rV (mcut_4 c4)
 refine Run.kn c4 ?_
 exact Run.rV (mcut_y c1 c2 c3 c4)
end Go.Proofs.YtcpjdjnaipbieaaGreat
namespace Go.Proofs.YtcpjdjnaipbieaaGreat
open Go.RowKit Rgn
def Mb.isB (m:Mb):Cx:=if m.c.zero = true then (if ((Cx.ofInt (1:Int) (0:Int)).sub m.a.conj).zero = true then Cx.ofInt (0:Int) (1:Int) else (Cx.ofInt (1:Int) (0:Int)).sub m.a.conj) else m.d
def Mb.isC (m:Mb):Cx:=if m.c.zero = true then (m.isB.mul m.b).neg else m.b.neg
def Mb.isA (m:Mb):Rat:=if m.c.zero = true then ((0:Int):Rat) else ((1:Int):Rat)
def Mb.isK (m:Mb):Ci:=⟨m.isA,m.isB,m.isC.re⟩
def Mb.isOk (m:Mb):Bool:=m.t && (m.isC.im.num.sign == 0) && m.isK.pos && decide (m.isK.nrm.over.nrm = m)
def Mb.isR (m:Mb):RCi:=if m.isOk = true then cicut m.isK.nrm else rzCi
def Mb.isE (m:Mb):Int:=if m.isOk = true then cierr m.isK.nrm else 7
theorem cmul_comm (x y:Cx):x.mul y = y.mul x:=Cx.ext' (by show x.re * y.re - x.im * y.im = y.re * x.re - y.im * x.im; grind) (by show x.re * y.im + x.im * y.re = y.re * x.im + y.im * x.re; grind)
theorem cmul_one (x:Cx):x.mul (Cx.ofInt (1:Int) (0:Int)) = x:=by
 have c1:((1:Int):Rat) = 1:=rfl
 have c0:((0:Int):Rat) = 0:=rfl
 exact Cx.ext' (by show x.re * ((1:Int):Rat) - x.im * ((0:Int):Rat) = x.re; rw [c1,c0]; grind) (by show x.re * ((0:Int):Rat) + x.im * ((1:Int):Rat) = x.im; rw [c1,c0]; grind)
theorem is_w0 {m:Mb} (h:m.c.zero = false):m.isK = ⟨Rat.divInt (1:Int) (1:Int),m.d,(m.b.mul (Cx.ofInt (1:Int) (0:Int))).neg.re⟩ ∧ m.isC.im = (m.b.mul (Cx.ofInt (1:Int) (0:Int))).neg.im:=by
 have h' : ¬ m.c.zero = true:=by rw [h]; decide
 unfold Mb.isK Mb.isC Mb.isB Mb.isA
 rw [if_neg h', if_neg h', if_neg h', cmul_one,divInt_one]
 exact ⟨rfl,rfl⟩
theorem is_w1 {m:Mb} (h:m.c.zero = true) (h2:((Cx.ofInt (1:Int) (0:Int)).sub m.a.conj).zero = false):m.isK = ⟨0,(Cx.ofInt (1:Int) (0:Int)).sub m.a.conj,(m.b.mul ((Cx.ofInt (1:Int) (0:Int)).sub m.a.conj)).neg.re⟩ ∧ m.isC.im = (m.b.mul ((Cx.ofInt (1:Int) (0:Int)).sub m.a.conj)).neg.im:=by
 have h' : ¬ ((Cx.ofInt (1:Int) (0:Int)).sub m.a.conj).zero = true:=by rw [h2]; decide
 have hB:m.isB = (Cx.ofInt (1:Int) (0:Int)).sub m.a.conj:=by unfold Mb.isB; rw [if_pos h,if_neg h']
 have hC:m.isC = (m.b.mul ((Cx.ofInt (1:Int) (0:Int)).sub m.a.conj)).neg:=by unfold Mb.isC; rw [if_pos h,hB,cmul_comm]
 unfold Mb.isK Mb.isA
 rw [if_pos h,hB,hC]
 exact ⟨rfl,rfl⟩
theorem is_w2 {m:Mb} (h:m.c.zero = true) (h2:((Cx.ofInt (1:Int) (0:Int)).sub m.a.conj).zero = true):m.isK = ⟨0,Cx.ofInt (0:Int) (1:Int),(m.b.mul (Cx.ofInt (0:Int) (1:Int))).neg.re⟩ ∧ m.isC.im = (m.b.mul (Cx.ofInt (0:Int) (1:Int))).neg.im:=by
 have hB:m.isB = Cx.ofInt (0:Int) (1:Int):=by unfold Mb.isB; rw [if_pos h,if_pos h2]
 have hC:m.isC = (m.b.mul (Cx.ofInt (0:Int) (1:Int))).neg:=by unfold Mb.isC; rw [if_pos h,hB,cmul_comm]
 unfold Mb.isK Mb.isA
 rw [if_pos h,hB,hC]
 exact ⟨rfl,rfl⟩
section
variable {m:Mb} {k:Ci} {q:Rat}
theorem is_n {m:Mb} (h:m.isOk = false):Value.tuple #[.agg zCi,.int .i64 7] = .tuple #[rciV m.isR,.int .i64 m.isE]:=by
 have h' : ¬ m.isOk = true:=by rw [h]; decide
 unfold Mb.isR Mb.isE
 rw [if_neg h', if_neg h']
theorem ok_t (h:m.t = false):m.isOk = false:=by
 unfold Mb.isOk; rw [h]; rfl
theorem ok_i (e:m.isK = k ∧ m.isC.im = q) (h:(q.num.sign != 0) = true):m.isOk = false:=by
 have:(m.isC.im.num.sign == 0) = false:=by rw [e.2]; simpa using h
 unfold Mb.isOk; rw [this]; simp
theorem ok_p (e:m.isK = k ∧ m.isC.im = q) (h:decide (k.pow.num.sign ≤ 0) = true):m.isOk = false:=by
 have:m.isK.pos = false:=by unfold Ci.pos; rw [e.1,h]; rfl
 unfold Mb.isOk; rw [this]; simp
theorem mbcut_iff {x:Mb} (hm:mbOk (rmb m) = true):decide (mbcut x = rmb m) = decide (x = m):=by
 obtain ⟨hf,hz,_⟩:=mbOk_c hm
 unfold mbcut
 split
 ·exact rmb_dec x m
 ·rename_i hn
  rw [decide_eq_false (fun e:x = m=>hn (e ▸ hf)),decide_eq_false]
  intro e
  have h2:=congrArg (fun r:RMb=>gfits r.a) e
  have h3:=congrArg (fun r:RMb=>r.a.re.b.s) e
  have h4:(⟨#[]⟩:ByteArray) = bS (m.a.re.den:Int).natAbs:=h3
  have h5:=bS_empty (m.a.re.den:Int).natAbs
  rw [← h4] at h5
  have h6:=m.a.re.den_pos
  simp at h5
  omega
theorem ok_b (hm:mbOk (rmb m) = true) (e:m.isK = k ∧ m.isC.im = q) (h:(!decide (mbcut k.nrm.over.nrm = rmb m)) = true):m.isOk = false:=by
 rw [mbcut_iff hm] at h
 have:decide (m.isK.nrm.over.nrm = m) = false:=by rw [e.1]; simpa using h
 unfold Mb.isOk; rw [this]; simp
theorem ok_y (hm:mbOk (rmb m) = true) (e:m.isK = k ∧ m.isC.im = q) (h1:m.t = true) (h2:(q.num.sign != 0) = false) (h3:decide (k.pow.num.sign ≤ 0) = false) (h4:(!decide (mbcut k.nrm.over.nrm = rmb m)) = false):m.isOk = true:=by
 rw [mbcut_iff hm] at h4
 unfold Mb.isOk Ci.pos
 rw [e.1,e.2,h3]
 simp at h2 h4
 simp [h1,h2,h4]
theorem is_y (e:m.isK = k ∧ m.isC.im = q) (h:m.isOk = true):Value.tuple #[rciV (cicut k.nrm),.int .i64 (cierr k.nrm)] = .tuple #[rciV m.isR,.int .i64 m.isE]:=by
 unfold Mb.isR Mb.isE
 rw [if_pos h,if_pos h,e.1]
end
theorem over_det (c:Ci):c.over.det = ⟨-c.pow,0⟩:=by
 refine Cx.ext' ?_ ?_
 ·show (-c.b.re * c.b.re - - -c.b.im * c.b.im) - (-c.c * c.a - 0 * 0) = -(c.b.re * c.b.re + c.b.im * c.b.im - c.a * c.c)
  grind
 ·show (-c.b.re * c.b.im + - -c.b.im * c.b.re) - (-c.c * 0 + 0 * c.a) = 0
  grind
theorem over_piv {c:Ci} (h:c.pos = true):c.over.piv.zero = false:=by
 refine det_piv ?_
 rw [over_det]
 cases e:Cx.zero ⟨-c.pow,0⟩ with
 | false=>rfl
 | true =>
  have h1:-c.pow = 0:=congrArg Cx.re (zero_iff.1 e)
  have h2:c.pow = 0:=by grind
  have:=pos_le h
  rw [h2] at this
  exact absurd this (by decide)
theorem pow_nrm (c:Ci):c.nrm.pow = c.pow * (c.piv⁻¹ * c.piv⁻¹):=by
 show (c.b.re * c.piv⁻¹) * (c.b.re * c.piv⁻¹) + (c.b.im * c.piv⁻¹) * (c.b.im * c.piv⁻¹) - (c.a * c.piv⁻¹) * (c.c * c.piv⁻¹) = (c.b.re * c.b.re + c.b.im * c.b.im - c.a * c.c) * (c.piv⁻¹ * c.piv⁻¹)
 grind
theorem pos_iff {c:Ci}:c.pos = true ↔ 0 < c.pow:=by
 unfold Ci.pos
 rw [Bool.not_eq_true', decide_eq_false_iff_not]
 have h:=sign3 c.pow.num
 have h1:0 ≤ c.pow.num ↔ 0 ≤ c.pow:=Rat.num_nonneg
 have h2:c.pow.num = 0 ↔ c.pow = 0:=Rat.num_eq_zero
 have h3:0 ≤ c.pow ↔ 0 < c.pow ∨ 0 = c.pow:=Rat.le_iff_lt_or_eq
 constructor
 ·intro hp
  have h4:0 ≤ c.pow:=h1.1 (by omega)
  rcases h3.1 h4 with h5 | h5
  ·exact h5
  ·have:=h2.2 h5.symm; omega
 ·intro hp
  have h4:0 ≤ c.pow.num:=h1.2 (h3.2 (.inl hp))
  have h5:c.pow.num ≠ 0:=fun e=>by
   have:=h2.1 e
   rw [this] at hp
   exact absurd hp (by decide)
  omega
theorem pos_nrm {c:Ci} (h:c.pos = true):c.nrm.pos = true:=by
 rw [pos_iff] at h ⊢
 rw [pow_nrm]
 have hp:=piv_ne (pos_flat (pos_iff.2 h))
 have hi:c.piv⁻¹ ≠ 0:=fun e=>hp (by rw [← Rat.inv_inv c.piv,e,Rat.inv_zero])
 refine Rat.mul_pos h ?_
 have h2:=sq_nonneg c.piv⁻¹
 rcases Rat.le_iff_lt_or_eq.1 h2 with h3 | h3
 ·exact h3
 ·rcases Rat.mul_eq_zero.1 h3.symm with h4 | h4 <;> exact absurd h4 hi
theorem nrm_le {k:Ci} (h:ht k.a + ht k.b.re + ht k.b.im + ht k.c ≤ 1000000):ht k.nrm.a + ht k.nrm.b.re + ht k.nrm.b.im + ht k.nrm.c ≤ 5000000:=by
 have h1:=nrm_ht k
 have h2:=piv_ht k
 unfold Ci.hh Cx.hh at h2
 omega
theorem over_le {k:Ci} (h:ht k.a + ht k.b.re + ht k.b.im + ht k.c ≤ 10000000):ht k.over.a.re + ht k.over.a.im + ht k.over.b.re + ht k.over.b.im + ht k.over.c.re + ht k.over.c.im + ht k.over.d.re + ht k.over.d.im ≤ 67108864:=by
 have h1:=ht_neg k.b.re
 have h2:=ht_neg (-k.b.im)
 have h3:=ht_neg k.b.im
 have h4:=ht_neg k.c
 have h5:=ht_zero
 show ht (-k.b.re) + ht (- -k.b.im) + ht (-k.c) + ht (0:Rat) + ht k.a + ht (0:Rat) + ht k.b.re + ht k.b.im ≤ _
 omega
theorem pos_of {k:Ci} (h:decide (k.pow.num.sign ≤ 0) = false):k.pos = true:=by unfold Ci.pos; rw [h]; rfl
@[reducible] def Cx.inv (k:Cx):Cx:=k.conj.scale k.norm⁻¹
theorem div_inv (x k:Cx):x.div k = x.mul k.inv:=Cx.ext' (by show (x.re * k.re - x.im * -k.im) * k.norm⁻¹ = x.re * (k.re * k.norm⁻¹) - x.im * (-k.im * k.norm⁻¹); grind) (by show (x.re * -k.im + x.im * k.re) * k.norm⁻¹ = x.re * (-k.im * k.norm⁻¹) + x.im * (k.re * k.norm⁻¹); grind)
theorem inv_one {k:Cx} (h:k.zero = false):k.inv.mul k = ⟨1,0⟩:=by
 have hn:k.norm ≠ 0:=zero_norm h
 have e:(k.re * k.re + k.im * k.im) * k.norm⁻¹ = 1:=Rat.mul_inv_cancel _ hn
 exact Cx.ext' (by show k.re * k.norm⁻¹ * k.re - -k.im * k.norm⁻¹ * k.im = 1; grind) (by show k.re * k.norm⁻¹ * k.im + -k.im * k.norm⁻¹ * k.re = 0; grind)
theorem inv_zero {k:Cx} (h:k.zero = false):k.inv.zero = false:=by
 cases e:k.inv.zero with
 | false=>rfl
 | true =>
  have h1:=inv_one h
  rw [zero_iff.1 e] at h1
  have h2:(0:Rat) * k.re - 0 * k.im = 1:=congrArg Cx.re h1
  grind
theorem mul_assoc' (x y z:Cx):(x.mul y).mul z = x.mul (y.mul z):=Cx.ext' (by show (x.re * y.re - x.im * y.im) * z.re - (x.re * y.im + x.im * y.re) * z.im = x.re * (y.re * z.re - y.im * z.im) - x.im * (y.re * z.im + y.im * z.re); grind) (by show (x.re * y.re - x.im * y.im) * z.im + (x.re * y.im + x.im * y.re) * z.re = x.re * (y.re * z.im + y.im * z.re) + x.im * (y.re * z.re - y.im * z.im); grind)
theorem mul_one' (x:Cx):x.mul ⟨1,0⟩ = x:=Cx.ext' (by show x.re * 1 - x.im * 0 = x.re; grind) (by show x.re * 0 + x.im * 1 = x.im; grind)
theorem zero_mul' (z:Cx):(Cx.mk 0 0).mul z = ⟨0,0⟩:=Cx.ext' (by show (0:Rat) * z.re - 0 * z.im = 0; grind) (by show (0:Rat) * z.im + 0 * z.re = 0; grind)
theorem mul_zero_iff {x j:Cx} (h:j.zero = false):(x.mul j).zero = x.zero:=by
 rw [Bool.eq_iff_iff,zero_iff,zero_iff]
 constructor
 ·intro e
  have e2:(x.mul j).mul j.inv = ⟨0,0⟩:=by rw [e]; exact zero_mul' _
  rw [mul_assoc', cmul_comm j,inv_one h,mul_one'] at e2
  exact e2
 ·intro e; rw [e]; exact zero_mul' _
theorem norm_mul' (x y:Cx):(x.mul y).norm = x.norm * y.norm:=by
 show (x.re * y.re - x.im * y.im) * (x.re * y.re - x.im * y.im) + (x.re * y.im + x.im * y.re) * (x.re * y.im + x.im * y.re) = (x.re * x.re + x.im * x.im) * (y.re * y.re + y.im * y.im)
 grind
theorem div_mul_mul {x y j:Cx} (h:j.zero = false):(x.mul j).div (y.mul j) = x.div y:=by
 have hn:j.norm ≠ 0:=zero_norm h
 have e:(y.mul j).norm⁻¹ * j.norm = y.norm⁻¹:=by
  rw [norm_mul', Rat.inv_mul_rev,Rat.mul_comm,← Rat.mul_assoc,Rat.mul_inv_cancel _ hn,Rat.one_mul]
 have e1:(x.mul j).mul (y.mul j).conj = (x.mul y.conj).scale j.norm:=Cx.ext' (by show (x.re * j.re - x.im * j.im) * (y.re * j.re - y.im * j.im) - (x.re * j.im + x.im * j.re) * -(y.re * j.im + y.im * j.re) = (x.re * y.re - x.im * -y.im) * (j.re * j.re + j.im * j.im); grind) (by show (x.re * j.re - x.im * j.im) * -(y.re * j.im + y.im * j.re) + (x.re * j.im + x.im * j.re) * (y.re * j.re - y.im * j.im) = (x.re * -y.im + x.im * y.re) * (j.re * j.re + j.im * j.im); grind)
 show ((x.mul j).mul (y.mul j).conj).scale (y.mul j).norm⁻¹ = (x.mul y.conj).scale y.norm⁻¹
 rw [e1,← e]
 exact Cx.ext' (by show (x.re * y.re - x.im * -y.im) * j.norm * (y.mul j).norm⁻¹ = (x.re * y.re - x.im * -y.im) * ((y.mul j).norm⁻¹ * j.norm); grind) (by show (x.re * -y.im + x.im * y.re) * j.norm * (y.mul j).norm⁻¹ = (x.re * -y.im + x.im * y.re) * ((y.mul j).norm⁻¹ * j.norm); grind)
@[reducible] def Mb.by (m:Mb) (j:Cx):Mb:=⟨m.a.mul j,m.b.mul j,m.c.mul j,m.d.mul j,m.t⟩
theorem nrm_by' (m:Mb):m.nrm = m.by m.piv.inv:=by unfold Mb.nrm; rw [div_inv,div_inv,div_inv,div_inv]
theorem piv_by {m:Mb} {j:Cx} (h:j.zero = false):(m.by j).piv = m.piv.mul j:=by
 unfold Mb.piv
 rw [mul_zero_iff h]
 split <;> rfl
theorem nrm_by {m:Mb} {j:Cx} (h:j.zero = false):(m.by j).nrm = m.nrm:=by
 unfold Mb.nrm
 rw [piv_by h,div_mul_mul h,div_mul_mul h,div_mul_mul h,div_mul_mul h]
theorem conj_mul (x y:Cx):(x.mul y).conj = x.conj.mul y.conj:=Cx.ext' (by show x.re * y.re - x.im * y.im = x.re * y.re - -x.im * -y.im; grind) (by show -(x.re * y.im + x.im * y.re) = x.re * -y.im + -x.im * y.re; grind)
theorem cj_mul (t:Bool) (x y:Cx):cjC t (x.mul y) = (cjC t x).mul (cjC t y):=by
 cases t with
 | false=>rfl
 | true=>exact conj_mul x y
theorem cj_zero (t:Bool) (x:Cx):(cjC t x).zero = x.zero:=by
 cases t with
 | false=>rfl
 | true=>exact zero_conj x
theorem neg_mul' (x y:Cx):(x.mul y).neg = x.neg.mul y:=Cx.ext' (by show -(x.re * y.re - x.im * y.im) = -x.re * y.re - -x.im * y.im; grind) (by show -(x.re * y.im + x.im * y.re) = -x.re * y.im + -x.im * y.re; grind)
theorem add_mul' (x y z:Cx):(x.add y).mul z = (x.mul z).add (y.mul z):=Cx.ext' (by show (x.re + y.re) * z.re - (x.im + y.im) * z.im = x.re * z.re - x.im * z.im + (y.re * z.re - y.im * z.im); grind) (by show (x.re + y.re) * z.im + (x.im + y.im) * z.re = x.re * z.im + x.im * z.re + (y.re * z.im + y.im * z.re); grind)
theorem undo_by {m:Mb} {j:Cx} (h:j.zero = false):(m.by j).undo = m.undo:=by
 have e:Mb.cjM m.t ⟨m.d.mul j,(m.b.mul j).neg,(m.c.mul j).neg,m.a.mul j,m.t⟩ = (Mb.cjM m.t ⟨m.d,m.b.neg,m.c.neg,m.a,m.t⟩).by (cjC m.t j):=by
  unfold Mb.cjM
  simp only [neg_mul', cj_mul]
 show (Mb.cjM m.t ⟨m.d.mul j,(m.b.mul j).neg,(m.c.mul j).neg,m.a.mul j,m.t⟩).nrm = _
 rw [e,nrm_by (by rw [cj_zero]; exact h)]
 rfl
theorem undo_nrm {m:Mb} (h:m.piv.zero = false):m.nrm.undo = m.undo:=by rw [nrm_by', undo_by (inv_zero h)]
theorem put_by (m:Mb) (j:Cx) (p:Pn):(m.by j).put p = ((m.put p).1.mul j,(m.put p).2.mul j):=by
 unfold Mb.put
 split
 ·rfl
 ·rw [add_mul', add_mul', mul_assoc', mul_assoc', mul_assoc', mul_assoc', cmul_comm j]
theorem send_nrm {m:Mb} (h:m.piv.zero = false) (p:Pn):m.nrm.send p = m.send p:=by
 have h' := inv_zero h
 rw [nrm_by']
 unfold Mb.send
 rw [put_by]
 simp only [mul_zero_iff h', div_mul_mul h']
def Ci.at (c:Ci) (v w:Cx):Rat:=c.a * v.norm + c.c * w.norm + (((c.b.mul v).mul w.conj).re + ((c.b.mul v).mul w.conj).re)
def Ci.mid (c:Ci) (n:Mb):Cx:=((((Cx.mk c.a 0).mul (n.a.mul n.b.conj)).add ((c.b.mul n.a).mul n.d.conj)).add ((c.b.mul n.b).conj.mul n.c)).add ((Cx.mk c.c 0).mul (n.c.mul n.d.conj))
def Ci.im (c:Ci) (n:Mb) (t:Bool):Ci:=⟨c.at n.a n.c,cjC t (c.mid n),c.at n.b n.d⟩
def Mb.img (m:Mb) (c:Ci):Ci:=c.im m.undo m.t
theorem img_nrm {m:Mb} (h:m.piv.zero = false) (c:Ci):m.nrm.img c = m.img c:=by
 unfold Mb.img
 rw [undo_nrm h]; rfl
theorem norm_cj (t:Bool) (z:Cx):(cjC t z).norm = z.norm:=by
 cases t
 ·rfl
 ·show z.re * z.re + -z.im * -z.im = z.re * z.re + z.im * z.im; grind
theorem im_pow (c:Ci) (n:Mb) (t:Bool):(c.im n t).pow = c.pow * n.det.norm:=by
 show (cjC t (c.mid n)).norm - c.at n.a n.c * c.at n.b n.d = _
 rw [norm_cj]
 obtain ⟨A,⟨B1,B2⟩,C⟩:=c
 obtain ⟨⟨p1,p2⟩,⟨q1,q2⟩,⟨r1,r2⟩,⟨s1,s2⟩,u⟩:=n
 unfold Ci.mid Ci.at
 simp only [Cx.norm,Cx.mul,Cx.add,Cx.sub,Cx.conj,Mb.det,Ci.pow]
 grind
theorem at_eq (c:Ci) (v w:Cx):(0:Rat) + c.a * v.norm + (((c.b.mul v).mul w.conj).re + ((c.b.mul v).mul w.conj).re) + c.c * w.norm = c.at v w:=by unfold Ci.at; grind
theorem mid_eq (c:Ci) (n:Mb):((((n.a.mul n.b.conj).scale c.a).add ((c.b.mul n.a).mul n.d.conj)).add ((c.b.mul n.b).conj.mul n.c)).add ((n.c.mul n.d.conj).scale c.c) = c.mid n:=by
 have e:∀ (z:Cx) (x:Rat),z.scale x = (Cx.mk x 0).mul z:=fun z x=>Cx.ext' (by show z.re * x = x * z.re - 0 * z.im; grind) (by show z.im * x = x * z.im + 0 * z.re; grind)
 unfold Ci.mid
 rw [e,e]
theorem det_by (m:Mb) (j:Cx):(m.by j).det = (m.det.mul j).mul j:=by
 obtain ⟨⟨p1,p2⟩,⟨q1,q2⟩,⟨r1,r2⟩,⟨s1,s2⟩,u⟩:=m
 obtain ⟨j1,j2⟩:=j
 exact Cx.ext' (by simp only [Mb.det,Mb.by,Cx.mul,Cx.sub]; grind) (by simp only [Mb.det,Mb.by,Cx.mul,Cx.sub]; grind)
theorem nrm_det {m:Mb} (h:m.det.zero = false):m.nrm.det.zero = false:=by
 have h' := inv_zero (det_piv h)
 rw [nrm_by', det_by,mul_zero_iff h', mul_zero_iff h']; exact h
theorem undo_det {m:Mb} (h:m.det.zero = false):m.undo.det.zero = false:=by
 cases e:m.t with
 | true=>rw [← undo_1 e]; exact nrm_det (by rw [det_undoC,zero_conj]; exact h)
 | false=>rw [← undo_0 e]; exact nrm_det (by rw [det_undo]; exact h)
theorem sq_nn (x:Rat):0 ≤ x * x:=by
 rcases Rat.le_total (a:=0) (b:=x) with g | g
 ·exact Rat.mul_nonneg g g
 ·have g' : 0 ≤ -x:=by grind
  have:=Rat.mul_nonneg g' g'
  grind
theorem norm_pos' {z:Cx} (h:z.zero = false):0 < z.norm:=by
 have h1:z.norm ≠ 0:=zero_norm h
 have h2:=sq_nn z.re
 have h3:=sq_nn z.im
 have h4:0 ≤ z.norm:=by show 0 ≤ z.re * z.re + z.im * z.im; grind
 grind
theorem img_pos {m:Mb} {c:Ci} (h:m.det.zero = false) (hc:c.pos = true):(m.img c).pos = true:=by
 rw [pos_iff] at hc ⊢
 unfold Mb.img
 rw [im_pow]
 exact Rat.mul_pos hc (norm_pos' (undo_det h))
theorem nrm_nrm {c:Ci} (h:c.flat = false):c.nrm.nrm = c.nrm:=by
 have hp:=piv_ne h
 have e:c.nrm.piv = 1:=by
  have hi:c.piv⁻¹ ≠ 0:=fun e=>hp (by have:=Rat.inv_inv c.piv; rw [e] at this; rw [← this]; decide +kernel)
  have z:∀ x:Rat,((x * c.piv⁻¹).num.sign == 0) = (x.num.sign == 0):=fun x=>by
   rw [Bool.eq_iff_iff,sgn_iff,sgn_iff,Rat.mul_eq_zero]
   exact ⟨fun h=>h.resolve_right hi,.inl⟩
  have e1:c.nrm.piv = c.piv * c.piv⁻¹:=by
   show (if ((c.a * c.piv⁻¹).num.sign == 0) = true then (if ((c.b.re * c.piv⁻¹).num.sign == 0) = true then c.b.im * c.piv⁻¹ else c.b.re * c.piv⁻¹) else c.a * c.piv⁻¹) = _
   rw [z,z]
   conv=>rhs; lhs; unfold Ci.piv
   split
   ·split <;> rfl
   ·rfl
  rw [e1]; exact Rat.mul_inv_cancel _ hp
 generalize c.nrm = d at e
 unfold Ci.nrm
 rw [e]
 have o:(1:Rat)⁻¹ = 1:=by decide +kernel
 rw [o]
 show Ci.mk (d.a * 1) ⟨d.b.re * 1,d.b.im * 1⟩ (d.c * 1) = d
 simp only [Rat.mul_one]
theorem Mb.ext5 {m n:Mb} (ha:m.a = n.a) (hb:m.b = n.b) (hc:m.c = n.c) (hd:m.d = n.d) (ht:m.t = n.t):m = n:=by
 cases m; cases n; simp_all
@[reducible] def Mb.st:Mb:=⟨⟨1,0⟩,⟨0,0⟩,⟨0,0⟩,⟨1,0⟩,false⟩
theorem st_is:Mb.mk (Cx.ofInt (1:Int) (0:Int)) ⟨0,0⟩ ⟨0,0⟩ (Cx.ofInt (1:Int) (0:Int)) false = Mb.st:=by decide +kernel
theorem by_by (m:Mb) (i j:Cx):(m.by i).by j = m.by (i.mul j):=Mb.ext5 (mul_assoc' ..) (mul_assoc' ..) (mul_assoc' ..) (mul_assoc' ..) rfl
theorem by_one (m:Mb):m.by ⟨1,0⟩ = m:=Mb.ext5 (mul_one' _) (mul_one' _) (mul_one' _) (mul_one' _) rfl
theorem nrm_eq {m n:Mb} (hm:m.piv.zero = false) (hn:n.piv.zero = false) (h:m.nrm = n.nrm):∃ j:Cx,j.zero = false ∧ m = n.by j:=by
 refine ⟨n.piv.inv.mul m.piv,?_,?_⟩
 ·rw [mul_zero_iff hm]; exact inv_zero hn
 ·rw [← by_by,← nrm_by', ← h,nrm_by', by_by,inv_one hm,by_one]
theorem dot_by (x y:Mb) (j:Cx):x.dot (y.by j) = (x.dot y).by j:=by
 refine Mb.ext5 ?_ ?_ ?_ ?_ rfl <;> (show (Cx.mul _ (Cx.mul _ _)).add (Cx.mul _ (Cx.mul _ _)) = _; rw [← mul_assoc', ← mul_assoc', ← add_mul'])
theorem by_dot (x y:Mb) (j:Cx):(x.by j).dot y = (x.dot y).by j:=by
 have e:∀ u v:Cx,(u.mul j).mul v = (u.mul v).mul j:=fun u v=>by rw [mul_assoc', cmul_comm j,← mul_assoc']
 refine Mb.ext5 ?_ ?_ ?_ ?_ rfl <;> (show (Cx.mul (Cx.mul _ _) _).add (Cx.mul (Cx.mul _ _) _) = _; rw [e,e,← add_mul'])
theorem cjM_by (t:Bool) (y:Mb) (j:Cx):Mb.cjM t (y.by j) = (Mb.cjM t y).by (cjC t j):=Mb.ext5 (cj_mul ..) (cj_mul ..) (cj_mul ..) (cj_mul ..) rfl
theorem behind_by (x y:Mb) {j:Cx} (h:j.zero = false):x.behind (y.by j) = x.behind y:=by
 unfold Mb.behind
 rw [cjM_by,dot_by,nrm_by (by rw [cj_zero]; exact h)]
theorem by_behind (x y:Mb) {j:Cx} (h:j.zero = false):(x.by j).behind y = x.behind y:=by
 unfold Mb.behind
 rw [by_dot,nrm_by h]
theorem behind_nrm (x:Mb) {y:Mb} (h:y.piv.zero = false):x.behind y.nrm = x.behind y:=by rw [nrm_by', behind_by x y (inv_zero h)]
theorem nrm_behind {x:Mb} (y:Mb) (h:x.piv.zero = false):x.nrm.behind y = x.behind y:=by rw [nrm_by', by_behind x y (inv_zero h)]
theorem behind_st (x:Mb):x.behind Mb.st = x.nrm:=by
 have e:x.dot (Mb.cjM x.t Mb.st) = x:=by
  obtain ⟨⟨a1,a2⟩,⟨b1,b2⟩,⟨c1,c2⟩,⟨d1,d2⟩,t⟩:=x
  cases t <;> refine Mb.ext5 (Cx.ext' ?_ ?_) (Cx.ext' ?_ ?_) (Cx.ext' ?_ ?_) (Cx.ext' ?_ ?_) rfl <;> simp [Mb.cjM,cjC,Cx.conj] <;> grind
 unfold Mb.behind
 rw [e]
theorem cz {x:Rat} (h:x ≠ 0):(Cx.mk x 0).zero = false:=by
 cases e:(Cx.mk x 0).zero with
 | false=>rfl
 | true=>exact absurd (congrArg Cx.re (zero_iff.1 e)) h
theorem pow_ne {c:Ci} (h:c.pos = true):c.pow ≠ 0:=fun e=>by
 have:=pos_iff.1 h
 rw [e] at this
 exact absurd this (by decide)
theorem st_nrm:Mb.st.nrm = Mb.st:=by decide +kernel
theorem twice_st {c:Ci} (h:c.pos = true):c.over.behind c.over.nrm = Mb.st:=by
 rw [behind_nrm _ (over_piv h)]
 have e:c.over.dot (Mb.cjM c.over.t c.over) = Mb.st.by ⟨c.pow,0⟩:=by
  obtain ⟨a,⟨b1,b2⟩,d⟩:=c
  refine Mb.ext5 (Cx.ext' ?_ ?_) (Cx.ext' ?_ ?_) (Cx.ext' ?_ ?_) (Cx.ext' ?_ ?_) rfl <;> simp [Mb.cjM,cjC,Cx.conj,Ci.pow,Cx.norm] <;> grind
 unfold Mb.behind
 rw [e,nrm_by (cz (pow_ne h)),st_nrm]
theorem val_turn (c:Ci) (z:Cx) {n:Cx} (hn:n = (c.over.c.mul z.conj).add c.over.d) (h:n.zero = false):c.val (((c.over.a.mul z.conj).add c.over.b).div n) * n.norm = -(c.pow * c.val z):=by
 have hk:n.norm ≠ 0:=zero_norm h
 have e:n.norm * n.norm⁻¹ = 1:=Rat.mul_inv_cancel _ hk
 generalize hi:n.norm⁻¹ = i at e
 have e2:(((c.over.a.mul z.conj).add c.over.b).div n) = (((c.over.a.mul z.conj).add c.over.b).mul n.conj).scale i:=by rw [← hi]
 rw [e2]
 obtain ⟨a,⟨b1,b2⟩,d⟩:=c
 obtain ⟨x,y⟩:=z
 have h1:n.re = a * x + b1:=by rw [hn]; simp only [Cx.mul,Cx.add,Cx.conj]; grind
 have h2:n.im = -(a * y) + b2:=by rw [hn]; simp only [Cx.mul,Cx.add,Cx.conj]; grind
 obtain ⟨n1,n2⟩:=n
 simp only at h1 h2
 simp only [Ci.val,Cx.mul,Cx.add,Cx.conj,Cx.neg,Cx.norm,Cx.scale,Ci.pow,Ci.over] at e ⊢
 subst h1 h2
 grind
theorem send_turn {c:Ci} {p:Pn} (hi:p.inf = false):c.over.put p = ((c.over.a.mul p.z.conj).add c.over.b,(c.over.c.mul p.z.conj).add c.over.d):=by
 unfold Mb.put
 rw [if_neg (by rw [hi]; decide)]; rfl
theorem send_inf {c:Ci} {p:Pn} (hi:p.inf = true):c.over.put p = (c.over.a,c.over.c):=by
 unfold Mb.put
 rw [if_pos hi]
theorem low_zero {c:Ci} {z:Cx} (h:((c.over.c.mul z.conj).add c.over.d).zero = true):c.a * c.val z = -c.pow:=by
 have h1:=zero_iff.1 h
 obtain ⟨a,⟨b1,b2⟩,d⟩:=c
 obtain ⟨x,y⟩:=z
 have h2:=congrArg Cx.re h1
 have h3:=congrArg Cx.im h1
 simp only [Ci.val,Cx.mul,Cx.add,Cx.conj,Cx.norm,Ci.pow,Ci.over] at h2 h3 ⊢
 grind
theorem sg_pos {x:Rat} (h:0 < x):x.num.sign = 1:=by
 have h1:0 ≤ x.num:=Rat.num_nonneg.2 (by grind)
 have h2:x.num ≠ 0:=fun e=>by have:=Rat.num_eq_zero.1 e; grind
 exact Int.sign_eq_one_of_pos (by omega)
theorem sg_neg {x:Rat} (h:x < 0):x.num.sign = -1:=by
 have h1:¬ 0 ≤ x.num:=fun e=>by have:=Rat.num_nonneg.1 e; grind
 exact Int.sign_eq_neg_one_of_neg (by omega)
theorem sg_zero {x:Rat}:x.num.sign = 0 ↔ x = 0:=by rw [Int.sign_eq_zero_iff_zero,Rat.num_eq_zero]
theorem rat_tri (x:Rat):x < 0 ∨ x = 0 ∨ 0 < x:=by
 rcases Rat.le_total (a:=0) (b:=x) with h | h <;> grind
theorem sg_flip {x y u v:Rat} (hu:0 < u) (hv:0 < v) (e:y * u = -(v * x)):y.num.sign = -x.num.sign:=by
 rcases rat_tri x with h | h | h
 ·have h1:0 < v * -x:=Rat.mul_pos hv (by grind)
  have h2:0 < y * u:=by rw [e]; grind
  have h3:0 < y:=by
   rcases rat_tri y with k | k | k
   ·have:=Rat.mul_pos (show 0 < -y by grind) hu; grind
   ·subst k; grind
   ·exact k
  rw [sg_neg h,sg_pos h3]; rfl
 ·subst h
  have h2:y * u = 0:=by rw [e]; grind
  have h3:y = 0:=(Rat.mul_eq_zero.1 h2).resolve_right (by grind)
  subst h3; rfl
 ·have h1:0 < v * x:=Rat.mul_pos hv h
  have h2:y * u < 0:=by rw [e]; grind
  have h3:y < 0:=by
   rcases rat_tri y with k | k | k
   ·exact k
   ·subst k; grind
   ·have:=Rat.mul_pos k hu; grind
  rw [sg_pos h,sg_neg h3]
theorem side_turn {c:Ci} (hc:c.pos = true) (p:Pn):c.side (c.over.send p) = -c.side p:=by
 have hp:=pos_iff.1 hc
 unfold Mb.send
 cases hi:p.inf with
 | true =>
  rw [send_inf hi]
  have e:c.side p = c.a.num.sign:=by unfold Ci.side; rw [if_pos hi]
  rw [e]
  cases h:c.over.c.zero with
  | true =>
   have:c.a = 0:=congrArg Cx.re (zero_iff.1 h)
   simp only [if_true]
   show c.a.num.sign = _
   rw [this]; rfl
  | false =>
   simp only [Bool.false_eq_true,if_false]
   have ha:c.a ≠ 0:=fun e=>by
    have h2:c.over.c = ⟨0,0⟩:=by show Cx.mk c.a 0 = _; rw [e]
    rw [zero_iff.2 h2] at h; cases h
   show (c.val (c.over.a.div c.over.c)).num.sign = _
   have hk:c.over.c.norm ≠ 0:=zero_norm h
   have e3:c.over.c.norm * c.over.c.norm⁻¹ = 1:=Rat.mul_inv_cancel _ hk
   have e2:c.over.a.div c.over.c = (c.over.a.mul c.over.c.conj).scale c.over.c.norm⁻¹:=rfl
   have hs:0 < c.a * c.a:=by have:=sq_nn c.a; have:c.a * c.a ≠ 0:=fun e=>ha (by rcases Rat.mul_eq_zero.1 e with k | k <;> exact k); grind
   refine sg_flip hs hp ?_
   rw [e2]
   generalize c.over.c.norm⁻¹ = i at e3 ⊢
   obtain ⟨a,⟨b1,b2⟩,d⟩:=c
   simp only [Ci.val,Cx.mul,Cx.add,Cx.conj,Cx.neg,Cx.norm,Cx.scale,Ci.pow,Ci.over] at e3 ⊢
   grind
 | false =>
  rw [send_turn hi]
  have e:c.side p = (c.val p.z).num.sign:=by unfold Ci.side; rw [if_neg (by rw [hi]; decide)]
  rw [e]
  cases h:((c.over.c.mul p.z.conj).add c.over.d).zero with
  | true =>
   simp only [if_true]
   have:=low_zero h
   show c.a.num.sign = _
   have h2:c.a ≠ 0:=fun e=>by rw [e] at this; grind
   have hs:0 < c.val p.z * c.val p.z:=by
    have:=sq_nn (c.val p.z)
    have:c.val p.z * c.val p.z ≠ 0:=fun e=>by rcases Rat.mul_eq_zero.1 e with k | k <;> (rw [k] at this; grind)
    grind
   exact sg_flip hs hp (by grind)
  | false =>
   simp only [Bool.false_eq_true,if_false]
   exact sg_flip (norm_pos' h) hp (val_turn c p.z rfl h)
theorem send_stay {c:Ci} (hc:c.pos = true) {p:Pn} (hz:p.inf = true → p.z = ⟨0,0⟩):c.over.send p = p ↔ c.side p = 0:=by
 have hp:=pow_ne hc
 constructor
 ·intro e
  have:=side_turn hc p
  rw [e] at this
  omega
 ·intro e
  unfold Mb.send
  cases hi:p.inf with
  | true =>
   rw [send_inf hi]
   have e:c.a = 0:=sg_zero.1 (by unfold Ci.side at e; rwa [if_pos hi] at e)
   have h:c.over.c.zero = true:=zero_iff.2 (by show Cx.mk c.a 0 = _; rw [e])
   rw [if_pos h,← hz hi,← hi]
  | false =>
   rw [send_turn hi]
   have e:c.val p.z = 0:=sg_zero.1 (by unfold Ci.side at e; rwa [if_neg (by rw [hi]; decide)] at e)
   cases h:((c.over.c.mul p.z.conj).add c.over.d).zero with
   | true=>have:=low_zero h; rw [e] at this; grind
   | false =>
    simp only [Bool.false_eq_true,if_false]
    have h1:(c.over.a.mul p.z.conj).add c.over.b = p.z.mul ((c.over.c.mul p.z.conj).add c.over.d):=by
     obtain ⟨a,⟨b1,b2⟩,d⟩:=c
     obtain ⟨i,x,y⟩:=p
     simp only [Ci.val,Cx.mul,Cx.norm] at e
     refine Cx.ext' ?_ ?_ <;> simp only [Cx.mul,Cx.add,Cx.conj,Cx.neg,Ci.over] <;> grind
    rw [h1,div_inv,mul_assoc', cmul_comm _ (Cx.inv _),inv_one h,mul_one', ← hi]
theorem in_one {c:Ci} (hc:c.nrm = c) (h:c.a ≠ 0):c.a = 1:=by
 have h1:(c.a.num.sign == 0) = false:=by
  cases e:(c.a.num.sign == 0) with
  | false=>rfl
  | true=>exact absurd (sgn_iff.1 e) h
 have h2:c.a * c.piv⁻¹ = c.a:=congrArg Ci.a hc
 rw [piv_0 h1] at h2
 have:=Rat.mul_inv_cancel _ h
 grind
theorem nrm_times (c:Ci) {x:Rat} (h:x ≠ 0):(c.times x).nrm = c.nrm:=by
 have z:∀ y:Rat,((y * x).num.sign == 0) = (y.num.sign == 0):=fun y=>by
  rw [Bool.eq_iff_iff,sgn_iff,sgn_iff,Rat.mul_eq_zero]
  exact ⟨fun g=>g.resolve_right h,.inl⟩
 have e1:(c.times x).piv = c.piv * x:=by
  show (if ((c.a * x).num.sign == 0) = true then (if ((c.b.re * x).num.sign == 0) = true then c.b.im * x else c.b.re * x) else c.a * x) = _
  rw [z,z]
  conv=>rhs; lhs; unfold Ci.piv
  split
  ·split <;> rfl
  ·rfl
 have e2:x * (c.piv * x)⁻¹ = c.piv⁻¹:=by
  rw [Rat.inv_mul_rev,← Rat.mul_assoc,Rat.mul_inv_cancel _ h,Rat.one_mul]
 unfold Ci.nrm
 rw [e1]
 show Ci.mk (c.a * x * (c.piv * x)⁻¹) ⟨c.b.re * x * (c.piv * x)⁻¹,c.b.im * x * (c.piv * x)⁻¹⟩ (c.c * x * (c.piv * x)⁻¹) = Ci.mk (c.a * c.piv⁻¹) ⟨c.b.re * c.piv⁻¹,c.b.im * c.piv⁻¹⟩ (c.c * c.piv⁻¹)
 simp only [Rat.mul_assoc,e2]
theorem nrm_eq' {c d:Ci} (hc:c.flat = false) (hd:d.flat = false) (h:c.nrm = d.nrm):∃ x:Rat,x ≠ 0 ∧ c = d.times x:=by
 have h1:=piv_ne hc
 have h2:=piv_ne hd
 have e:c = c.nrm.times c.piv:=by
  have k:c.piv⁻¹ * c.piv = 1:=by rw [Rat.mul_comm]; exact Rat.mul_inv_cancel _ h1
  show c = Ci.mk (c.a * c.piv⁻¹ * c.piv) ⟨c.b.re * c.piv⁻¹ * c.piv,c.b.im * c.piv⁻¹ * c.piv⟩ (c.c * c.piv⁻¹ * c.piv)
  simp only [Rat.mul_assoc,k,Rat.mul_one]
 refine ⟨d.piv⁻¹ * c.piv,?_,?_⟩
 ·intro e
  rcases Rat.mul_eq_zero.1 e with k | k
  ·exact h2 (by have:=Rat.inv_inv d.piv; rw [k] at this; rw [← this]; decide +kernel)
  ·exact h1 k
 ·conv=>lhs; rw [e,h]
  show Ci.mk (d.a * d.piv⁻¹ * c.piv) ⟨d.b.re * d.piv⁻¹ * c.piv,d.b.im * d.piv⁻¹ * c.piv⟩ (d.c * d.piv⁻¹ * c.piv) = Ci.mk (d.a * (d.piv⁻¹ * c.piv)) ⟨d.b.re * (d.piv⁻¹ * c.piv),d.b.im * (d.piv⁻¹ * c.piv)⟩ (d.c * (d.piv⁻¹ * c.piv))
  simp only [Rat.mul_assoc]
theorem turn_im (c d:Ci):d.im c.over true = ⟨c.pow * d.a + 2 * c.dot d * c.a,(c.b.scale (2 * c.dot d)).add (d.b.scale c.pow),c.pow * d.c + 2 * c.dot d * c.c⟩:=by
 have half:Rat.divInt (1:Int) (2:Int) * 2 = 1:=by decide +kernel
 unfold Ci.dot
 generalize Rat.divInt (1:Int) (2:Int) = h at half
 obtain ⟨a,⟨b1,b2⟩,f⟩:=c
 obtain ⟨g,⟨e1,e2⟩,k⟩:=d
 unfold Ci.im Ci.at Ci.mid cjC
 simp only [Cx.mul,Cx.add,Cx.conj,Cx.neg,Cx.norm,Cx.scale,Ci.pow,Ci.over,if_true]
 simp only [Ci.mk.injEq,Cx.mk.injEq]
 refine ⟨?_,⟨?_,?_⟩,?_⟩ <;> grind
theorem undo_over {c:Ci}:c.over.undo = c.over.nrm:=by
 have e:Mb.cjM c.over.t ⟨c.over.d,c.over.b.neg,c.over.c.neg,c.over.a,c.over.t⟩ = c.over.by ⟨-1,0⟩:=by
  obtain ⟨a,⟨b1,b2⟩,f⟩:=c
  refine Mb.ext5 (Cx.ext' ?_ ?_) (Cx.ext' ?_ ?_) (Cx.ext' ?_ ?_) (Cx.ext' ?_ ?_) rfl <;> simp only [Mb.cjM,cjC,Cx.conj,Cx.neg,Cx.mul,Ci.over,if_true] <;> grind
 show (Mb.cjM c.over.t ⟨c.over.d,c.over.b.neg,c.over.c.neg,c.over.a,c.over.t⟩).nrm = _
 rw [e,nrm_by (by decide +kernel)]
theorem im_by (c:Ci) (n:Mb) (j:Cx) (t:Bool):c.im (n.by j) t = (c.im n t).times j.norm:=by
 obtain ⟨a,⟨b1,b2⟩,f⟩:=c
 obtain ⟨⟨p1,p2⟩,⟨q1,q2⟩,⟨r1,r2⟩,⟨s1,s2⟩,u⟩:=n
 obtain ⟨j1,j2⟩:=j
 unfold Ci.im Ci.at Ci.mid cjC
 cases t <;> simp only [Cx.mul,Cx.add,Cx.conj,Cx.norm,Cx.scale,Ci.times,Mb.by,if_true,Bool.false_eq_true,if_false,Ci.mk.injEq,Cx.mk.injEq] <;> refine ⟨?_,⟨?_,?_⟩,?_⟩ <;> grind
theorem turn_img {c:Ci} (hc:c.pos = true) (d:Ci):∃ x:Rat,x ≠ 0 ∧ c.over.nrm.img d = (d.im c.over true).times x:=by
 refine ⟨c.over.piv.inv.norm,zero_norm (inv_zero (over_piv hc)),?_⟩
 rw [img_nrm (over_piv hc)]
 unfold Mb.img
 rw [undo_over,nrm_by', im_by]
theorem ci_ext {c d:Ci} (h1:c.a = d.a) (h2:c.b.re = d.b.re) (h3:c.b.im = d.b.im) (h4:c.c = d.c):c = d:=by
 obtain ⟨a,⟨b1,b2⟩,f⟩:=c
 obtain ⟨g,⟨e1,e2⟩,k⟩:=d
 simp_all
theorem im_over_pos {c d:Ci} (hc:c.pos = true) (hd:d.pos = true):(d.im c.over true).pos = true:=by
 rw [pos_iff] at hd ⊢
 rw [im_pow,over_det]
 refine Rat.mul_pos hd (norm_pos' (cz ?_))
 have:=pow_ne hc
 grind
theorem turn_same {c d:Ci} (hc:c.pos = true) (hd:d.pos = true) (nc:c.nrm = c) (nd:d.nrm = d):(c.over.nrm.img d).nrm = d ↔ c.dot d = 0 ∨ c = d:=by
 obtain ⟨x,hx,e⟩:=turn_img hc d
 rw [e,nrm_times _ hx]
 have hp:=pow_ne hc
 constructor
 ·intro h
  rw [← nd] at h
  rw [nd] at h
  obtain ⟨y,hy,e2⟩:=nrm_eq' (pos_flat (im_over_pos hc hd)) (pos_flat hd) (h.trans nd.symm)
  rw [turn_im] at e2
  by_cases k:c.dot d = 0
  ·exact .inl k
  ·right
   have k2:(2 * c.dot d) ≠ 0:=by grind
   have kk:=Rat.mul_inv_cancel _ k2
   have h1:c.pow * d.a + 2 * c.dot d * c.a = d.a * y:=congrArg Ci.a e2
   have h2:c.b.re * (2 * c.dot d) + d.b.re * c.pow = d.b.re * y:=congrArg (fun c:Ci=>c.b.re) e2
   have h3:c.b.im * (2 * c.dot d) + d.b.im * c.pow = d.b.im * y:=congrArg (fun c:Ci=>c.b.im) e2
   have h4:c.pow * d.c + 2 * c.dot d * c.c = d.c * y:=congrArg Ci.c e2
   generalize c.dot d = P at *
   generalize (2 * P)⁻¹ = i at kk
   have e3:c = d.times ((y - c.pow) * i):=by
    refine ci_ext ?_ ?_ ?_ ?_
    ·show c.a = d.a * ((y - c.pow) * i); grind
    ·show c.b.re = d.b.re * ((y - c.pow) * i); grind
    ·show c.b.im = d.b.im * ((y - c.pow) * i); grind
    ·show c.c = d.c * ((y - c.pow) * i); grind
   have hz:(y - c.pow) * i ≠ 0:=by
    intro z
    rw [z] at e3
    apply hp
    rw [e3]
    show d.b.re * 0 * (d.b.re * 0) + d.b.im * 0 * (d.b.im * 0) - d.a * 0 * (d.c * 0) = 0
    grind
   rw [← nc,← nd]
   conv=>lhs; rw [e3]
   exact nrm_times d hz
 ·intro h
  rw [turn_im]
  rcases h with h | h
  ·have e:Ci.mk (c.pow * d.a + 2 * c.dot d * c.a) ((c.b.scale (2 * c.dot d)).add (d.b.scale c.pow)) (c.pow * d.c + 2 * c.dot d * c.c) = d.times c.pow:=by
    rw [h]
    refine ci_ext ?_ ?_ ?_ ?_
    ·show c.pow * d.a + 2 * 0 * c.a = d.a * c.pow; grind
    ·show c.b.re * (2 * 0) + d.b.re * c.pow = d.b.re * c.pow; grind
    ·show c.b.im * (2 * 0) + d.b.im * c.pow = d.b.im * c.pow; grind
    ·show c.pow * d.c + 2 * 0 * c.c = d.c * c.pow; grind
   rw [e,nrm_times _ hp,nd]
  ·subst h
   have k:c.dot c = -c.pow:=by
    have half:Rat.divInt (1:Int) (2:Int) * 2 = 1:=by decide +kernel
    unfold Ci.dot
    generalize Rat.divInt (1:Int) (2:Int) = h at half
    show (c.a * c.c + c.a * c.c) * h - (c.b.re * c.b.re - c.b.im * -c.b.im) = -(c.b.re * c.b.re + c.b.im * c.b.im - c.a * c.c)
    grind
   have e:Ci.mk (c.pow * c.a + 2 * c.dot c * c.a) ((c.b.scale (2 * c.dot c)).add (c.b.scale c.pow)) (c.pow * c.c + 2 * c.dot c * c.c) = c.times (-c.pow):=by
    rw [k]
    refine ci_ext ?_ ?_ ?_ ?_
    ·show c.pow * c.a + 2 * -c.pow * c.a = c.a * -c.pow; grind
    ·show c.b.re * (2 * -c.pow) + c.b.re * c.pow = c.b.re * -c.pow; grind
    ·show c.b.im * (2 * -c.pow) + c.b.im * c.pow = c.b.im * -c.pow; grind
    ·show c.pow * c.c + 2 * -c.pow * c.c = c.c * -c.pow; grind
   rw [e,nrm_times _ (by grind),nc]
theorem in_prop {c d:Ci} (fc:c.flat = false) (fd:d.flat = false) (h1:c.a * d.b.re = d.a * c.b.re) (h2:c.a * d.b.im = d.a * c.b.im) (h3:c.a * d.c = d.a * c.c) (h4:c.b.re * d.b.im = c.b.im * d.b.re) (h5:c.b.re * d.c = d.b.re * c.c) (h6:c.b.im * d.c = d.b.im * c.c):c.nrm = d.nrm:=by
 have hp:=piv_ne fc
 have hq:=piv_ne fd
 have key:∀ u v:Rat,u ≠ 0 → u * d.a = v * c.a → u * d.b.re = v * c.b.re → u * d.b.im = v * c.b.im → u * d.c = v * c.c → c.nrm = d.nrm:=fun u v hu k1 k2 k3 k4=>by
  have hi:=Rat.mul_inv_cancel _ hu
  have e:d = c.times (v * u⁻¹):=by
   generalize u⁻¹ = i at hi
   refine ci_ext ?_ ?_ ?_ ?_
   ·show d.a = c.a * (v * i); grind
   ·show d.b.re = c.b.re * (v * i); grind
   ·show d.b.im = c.b.im * (v * i); grind
   ·show d.c = c.c * (v * i); grind
  have hz:v * u⁻¹ ≠ 0:=by
   intro z
   rw [z] at e
   apply hq
   have q1:d.a = 0:=by rw [e]; show c.a * 0 = 0; grind
   have q2:d.b.re = 0:=by rw [e]; show c.b.re * 0 = 0; grind
   have q3:d.b.im = 0:=by rw [e]; show c.b.im * 0 = 0; grind
   rw [piv_2 (sgn_iff.2 q1) (sgn_iff.2 q2),q3]
  rw [e,nrm_times _ hz]
 by_cases z1:c.a = 0
 ·by_cases z2:c.b.re = 0
  ·have z3:c.b.im ≠ 0:=by rwa [piv_2 (sgn_iff.2 z1) (sgn_iff.2 z2)] at hp
   exact key c.b.im d.b.im z3 (by grind) (by grind) (by grind) (by grind)
  ·exact key c.b.re d.b.re z2 (by grind) (by grind) (by grind) (by grind)
 ·exact key c.a d.a z1 (by grind) (by grind) (by grind) (by grind)
@[reducible] def Ci.duo (c d:Ci):Mb:=c.over.dot (Mb.cjM true d.over)
theorem duo_adj (c d:Ci):d.duo c = ⟨(c.duo d).d,(c.duo d).b.neg,(c.duo d).c.neg,(c.duo d).a,false⟩:=by
 obtain ⟨a,⟨b1,b2⟩,f⟩:=c
 obtain ⟨g,⟨e1,e2⟩,k⟩:=d
 refine Mb.ext5 (Cx.ext' ?_ ?_) (Cx.ext' ?_ ?_) (Cx.ext' ?_ ?_) (Cx.ext' ?_ ?_) rfl <;> simp only [Ci.duo,Mb.dot,Mb.cjM,cjC,Cx.conj,Cx.neg,Cx.mul,Cx.add,Ci.over,if_true] <;> grind
theorem duo_det (c d:Ci):(c.duo d).det = ⟨c.pow * d.pow,0⟩:=by
 obtain ⟨a,⟨b1,b2⟩,f⟩:=c
 obtain ⟨g,⟨e1,e2⟩,k⟩:=d
 refine Cx.ext' ?_ ?_ <;> simp only [Ci.duo,Mb.det,Mb.dot,Mb.cjM,cjC,Cx.conj,Cx.neg,Cx.mul,Cx.add,Cx.sub,Ci.over,Ci.pow,Cx.norm,if_true] <;> grind
theorem duo_tr (c d:Ci):(c.duo d).a.add (c.duo d).d = ⟨-(2 * c.dot d),0⟩:=by
 have half:Rat.divInt (1:Int) (2:Int) * 2 = 1:=by decide +kernel
 unfold Ci.dot
 generalize Rat.divInt (1:Int) (2:Int) = h at half
 obtain ⟨a,⟨b1,b2⟩,f⟩:=c
 obtain ⟨g,⟨e1,e2⟩,k⟩:=d
 refine Cx.ext' ?_ ?_ <;> simp only [Ci.duo,Mb.dot,Mb.cjM,cjC,Cx.conj,Cx.neg,Cx.mul,Cx.add,Ci.over,if_true] <;> grind
theorem mul_z {x y:Cx} (h:x.mul y = ⟨0,0⟩) (hy:y.zero = false):x = ⟨0,0⟩:=by
 have:=mul_zero_iff (x:=x) hy
 rw [zero_iff.2 h] at this
 exact zero_iff.1 this.symm
theorem duo_nz {c d:Ci} (hc:c.pos = true) (hd:d.pos = true):(c.duo d).det.zero = false:=by
 rw [duo_det]
 exact cz (fun e=>(Rat.mul_eq_zero.1 e).elim (pow_ne hc) (pow_ne hd))
theorem comm_iff {c d:Ci} (hc:c.pos = true) (hd:d.pos = true) (nc:c.nrm = c) (nd:d.nrm = d):c.over.behind d.over = d.over.behind c.over ↔ c.dot d = 0 ∨ c = d:=by
 show (c.duo d).nrm = (d.duo c).nrm ↔ _
 constructor
 ·intro h
  obtain ⟨j,hj,e⟩:=nrm_eq (det_piv (duo_nz hc hd)) (det_piv (duo_nz hd hc)) h
  rw [duo_adj c d] at e
  have e1:(c.duo d).a = (c.duo d).d.mul j:=congrArg Mb.a e
  have e2:(c.duo d).b = (c.duo d).b.neg.mul j:=congrArg Mb.b e
  have e3:(c.duo d).c = (c.duo d).c.neg.mul j:=congrArg Mb.c e
  have e4:(c.duo d).d = (c.duo d).a.mul j:=congrArg Mb.d e
  have hdet:=duo_nz hc hd
  have htr:=duo_tr c d
  by_cases k:j = ⟨-1,0⟩
  ·left
   subst k
   have h1:(c.duo d).a.re = (c.duo d).d.re * -1 - (c.duo d).d.im * 0:=congrArg Cx.re e1
   have h2:(c.duo d).a.re + (c.duo d).d.re = -(2 * c.dot d):=congrArg Cx.re htr
   grind
  ·have k' : (j.add ⟨1,0⟩).zero = false:=by
    cases q:(j.add ⟨1,0⟩).zero with
    | false=>rfl
    | true =>
     have q1:j.re + 1 = 0:=congrArg Cx.re (zero_iff.1 q)
     have q2:j.im + 0 = 0:=congrArg Cx.im (zero_iff.1 q)
     exact absurd (Cx.ext' (by show j.re = -1; grind) (by show j.im = 0; grind)) k
   have z:∀ x:Cx,x = x.neg.mul j → x = ⟨0,0⟩:=fun x hx=>by
    refine mul_z (y:=j.add ⟨1,0⟩) ?_ k'
    have q1:x.re = -x.re * j.re - -x.im * j.im:=congrArg Cx.re hx
    have q2:x.im = -x.re * j.im + -x.im * j.re:=congrArg Cx.im hx
    exact Cx.ext' (by show x.re * (j.re + 1) - x.im * (j.im + 0) = 0; grind) (by show x.re * (j.im + 0) + x.im * (j.re + 1) = 0; grind)
   have z2:=z _ e2
   have z3:=z _ e3
   have e5:(c.duo d).d.mul ((j.mul j).sub ⟨1,0⟩) = ⟨0,0⟩:=by
    have q:=e4
    rw [e1,mul_assoc'] at q
    have q1:(c.duo d).d.re = ((c.duo d).d.mul (j.mul j)).re:=congrArg Cx.re q
    have q2:(c.duo d).d.im = ((c.duo d).d.mul (j.mul j)).im:=congrArg Cx.im q
    generalize (c.duo d).d = x at q1 q2
    generalize j.mul j = y at q1 q2
    have q1:x.re = x.re * y.re - x.im * y.im:=q1
    have q2:x.im = x.re * y.im + x.im * y.re:=q2
    exact Cx.ext' (by show x.re * (y.re - 1) - x.im * (y.im - 0) = 0; grind) (by show x.re * (y.im - 0) + x.im * (y.re - 1) = 0; grind)
   have e6:(c.duo d).d ≠ ⟨0,0⟩:=fun q=>by
    have:(c.duo d).det = ⟨0,0⟩:=by
     show ((c.duo d).a.mul (c.duo d).d).sub ((c.duo d).b.mul (c.duo d).c) = _
     rw [q,z2]
     generalize (c.duo d).a = x
     generalize (c.duo d).c = y
     exact Cx.ext' (by show x.re * 0 - x.im * 0 - (0 * y.re - 0 * y.im) = 0; grind) (by show x.re * 0 + x.im * 0 - (0 * y.im + 0 * y.re) = 0; grind)
    rw [zero_iff.2 this] at hdet; cases hdet
   have e7:j.mul j = ⟨1,0⟩:=by
    cases q:((j.mul j).sub ⟨1,0⟩).zero with
    | false=>exact absurd (mul_z e5 q) e6
    | true =>
     have q1:(j.mul j).re - 1 = 0:=congrArg Cx.re (zero_iff.1 q)
     have q2:(j.mul j).im - 0 = 0:=congrArg Cx.im (zero_iff.1 q)
     exact Cx.ext' (by show (j.mul j).re = 1; grind) (by show (j.mul j).im = 0; grind)
   have e8:j = ⟨1,0⟩:=by
    have q:(j.sub ⟨1,0⟩).mul (j.add ⟨1,0⟩) = ⟨0,0⟩:=by
     have q1:j.re * j.re - j.im * j.im = 1:=congrArg Cx.re e7
     have q2:j.re * j.im + j.im * j.re = 0:=congrArg Cx.im e7
     exact Cx.ext' (by show (j.re - 1) * (j.re + 1) - (j.im - 0) * (j.im + 0) = 0; grind) (by show (j.re - 1) * (j.im + 0) + (j.im - 0) * (j.re + 1) = 0; grind)
    have q1:j.re - 1 = 0:=congrArg Cx.re (mul_z q k')
    have q2:j.im - 0 = 0:=congrArg Cx.im (mul_z q k')
    exact Cx.ext' (by show j.re = 1; grind) (by show j.im = 0; grind)
   right
   rw [e8,mul_one'] at e1
   rw [← nc,← nd]
   clear e e2 e3 e4 e5 e6 e7 e8 k k' z h hdet htr hj
   obtain ⟨a,⟨b1,b2⟩,f⟩:=c
   obtain ⟨g,⟨w1,w2⟩,u⟩:=d
   simp only [Ci.duo,Mb.dot,Mb.cjM,cjC,Cx.conj,Cx.neg,Cx.mul,Cx.add,Ci.over,if_true,Cx.mk.injEq] at e1 z2 z3
   obtain ⟨e11,e12⟩:=e1
   obtain ⟨z21,z22⟩:=z2
   obtain ⟨z31,z32⟩:=z3
   refine in_prop (pos_flat hc) (pos_flat hd) ?_ ?_ ?_ ?_ ?_ ?_
   ·show a * w1 = g * b1; grind
   ·show a * w2 = g * b2; grind
   ·show a * u = g * f; grind
   ·show b1 * w2 = b2 * w1; grind
   ·show b1 * u = w1 * f; grind
   ·show b2 * u = w2 * f; grind
 ·rintro (h | h)
  ·have e:d.duo c = (c.duo d).by ⟨-1,0⟩:=by
    rw [duo_adj]
    have q:=duo_tr c d
    rw [h] at q
    have q1:(c.duo d).a.re + (c.duo d).d.re = -(2 * 0):=congrArg Cx.re q
    have q2:(c.duo d).a.im + (c.duo d).d.im = 0:=congrArg Cx.im q
    have qt:(c.duo d).t = false:=rfl
    generalize c.duo d = X at q1 q2 qt
    obtain ⟨⟨p1,p2⟩,⟨q1,q2⟩,⟨r1,r2⟩,⟨s1,s2⟩,u⟩:=X
    simp only at q1 q2 qt
    subst qt
    refine Mb.ext5 (Cx.ext' ?_ ?_) (Cx.ext' ?_ ?_) (Cx.ext' ?_ ?_) (Cx.ext' ?_ ?_) rfl <;> simp only [Cx.neg,Cx.mul] <;> grind
   rw [e,nrm_by (by decide +kernel)]
  ·rw [h]
theorem over_times (c:Ci) (x:Rat):(c.times x).over = c.over.by ⟨x,0⟩:=by
 obtain ⟨a,⟨b1,b2⟩,f⟩:=c
 refine Mb.ext5 (Cx.ext' ?_ ?_) (Cx.ext' ?_ ?_) (Cx.ext' ?_ ?_) (Cx.ext' ?_ ?_) rfl <;> simp only [Cx.conj,Cx.neg,Cx.mul,Cx.scale,Ci.over,Ci.times] <;> grind
theorem over_nrm {c:Ci} (h:c.flat = false):c.nrm.over.nrm = c.over.nrm:=by
 have hp:=piv_ne h
 have hi:c.piv⁻¹ ≠ 0:=fun e=>hp (by have:=Rat.inv_inv c.piv; rw [e] at this; rw [← this]; decide +kernel)
 show (c.times c.piv⁻¹).over.nrm = _
 rw [over_times,nrm_by (cz hi)]
theorem way_dot (m:Mb) (c:Ci):m.dot (Mb.cjM m.t (c.over.dot (Mb.cjM true (Mb.cjM m.t ⟨m.d,m.b.neg,m.c.neg,m.a,m.t⟩)))) = (c.im (Mb.cjM m.t ⟨m.d,m.b.neg,m.c.neg,m.a,m.t⟩) m.t).over:=by
 obtain ⟨a,⟨b1,b2⟩,f⟩:=c
 obtain ⟨⟨p1,p2⟩,⟨q1,q2⟩,⟨r1,r2⟩,⟨s1,s2⟩,t⟩:=m
 cases t
 ·refine Mb.ext5 (Cx.ext' ?_ ?_) (Cx.ext' ?_ ?_) (Cx.ext' ?_ ?_) (Cx.ext' ?_ ?_) rfl <;> simp only [Ci.im,Ci.at,Ci.mid,Mb.dot,Mb.cjM,cjC,Cx.conj,Cx.neg,Cx.mul,Cx.add,Cx.norm,Ci.over,if_true,Bool.false_eq_true,if_false] <;> grind
 ·refine Mb.ext5 (Cx.ext' ?_ ?_) (Cx.ext' ?_ ?_) (Cx.ext' ?_ ?_) (Cx.ext' ?_ ?_) rfl <;> simp only [Ci.im,Ci.at,Ci.mid,Mb.dot,Mb.cjM,cjC,Cx.conj,Cx.neg,Cx.mul,Cx.add,Cx.norm,Ci.over,if_true] <;> grind
@[reducible] def Mb.adj (m:Mb):Mb:=Mb.cjM m.t ⟨m.d,m.b.neg,m.c.neg,m.a,m.t⟩
theorem undo_adj (m:Mb):m.undo = m.adj.nrm:=rfl
theorem adj_det {m:Mb} (h:m.det.zero = false):m.adj.det.zero = false:=by
 have e:m.adj.det = cjC m.t m.det:=by
  obtain ⟨⟨p1,p2⟩,⟨q1,q2⟩,⟨r1,r2⟩,⟨s1,s2⟩,t⟩:=m
  cases t <;> refine Cx.ext' ?_ ?_ <;> simp only [Mb.adj,Mb.det,Mb.cjM,cjC,Cx.conj,Cx.neg,Cx.mul,Cx.sub,if_true,Bool.false_eq_true,if_false] <;> grind
 rw [e,cj_zero]; exact h
theorem im_pos {n:Mb} {c:Ci} (t:Bool) (h:n.det.zero = false) (hc:c.pos = true):(c.im n t).pos = true:=by
 rw [pos_iff] at hc ⊢
 rw [im_pow]
 exact Rat.mul_pos hc (norm_pos' h)
theorem mul_zero_f {x y:Cx} (h:x.zero = false) (h' : y.zero = false):(x.mul y).zero = false:=by rw [mul_zero_iff h']; exact h
theorem dot_det (x y:Mb):(x.dot y).det = x.det.mul y.det:=by
 obtain ⟨⟨p1,p2⟩,⟨q1,q2⟩,⟨r1,r2⟩,⟨s1,s2⟩,t⟩:=x
 obtain ⟨⟨u1,u2⟩,⟨v1,v2⟩,⟨w1,w2⟩,⟨x1,x2⟩,s⟩:=y
 refine Cx.ext' ?_ ?_ <;> simp only [Mb.det,Mb.dot,Cx.mul,Cx.sub,Cx.add] <;> grind
theorem cjM_det (t:Bool) (m:Mb):(Mb.cjM t m).det = cjC t m.det:=by
 obtain ⟨⟨p1,p2⟩,⟨q1,q2⟩,⟨r1,r2⟩,⟨s1,s2⟩,s⟩:=m
 cases t
 ·rfl
 ·refine Cx.ext' ?_ ?_ <;> simp only [Mb.det,Mb.cjM,cjC,Cx.mul,Cx.sub,Cx.conj,if_true] <;> grind
theorem over_dz {c:Ci} (h:c.pos = true):c.over.det.zero = false:=by
 rw [over_det]; exact cz (by have:=pow_ne h; grind)
theorem way_is {m:Mb} {c:Ci} (h:m.det.zero = false) (hc:c.pos = true):m.behind (c.over.nrm.behind (m.undo.behind Mb.st)) = (m.img c).nrm.over.nrm:=by
 have ha:=adj_det h
 have hp:=det_piv ha
 have hi:=inv_zero hp
 have hq:(c.over.dot (Mb.cjM true m.adj)).det.zero = false:=by
  rw [dot_det,cjM_det]
  exact mul_zero_f (over_dz hc) (by rw [cj_zero]; exact ha)
 rw [behind_st,nrm_behind _ (over_piv hc),undo_adj,behind_nrm _ (det_piv (nrm_det ha)),behind_nrm _ hp]
 have e:c.over.behind m.adj = (c.over.dot (Mb.cjM true m.adj)).nrm:=rfl
 rw [e,behind_nrm _ (det_piv hq)]
 have e2:m.behind (c.over.dot (Mb.cjM true m.adj)) = (m.dot (Mb.cjM m.t (c.over.dot (Mb.cjM true m.adj)))).nrm:=rfl
 rw [e2,way_dot]
 have e3:m.img c = (c.im m.adj m.t).times m.adj.piv.inv.norm:=by
  unfold Mb.img
  rw [undo_adj,nrm_by', im_by]
 rw [e3,nrm_times _ (zero_norm hi),over_nrm (pos_flat (im_pos m.t ha hc))]
theorem img_flat {m:Mb} {c:Ci} (h:m.det.zero = false) (hc:c.pos = true):(m.img c).flat = false:=pos_flat (img_pos h hc)
theorem is_of {c:Ci} (h:c.pos = true) (nc:c.nrm = c) {x:Rat} (hx:x ≠ 0) (e:c.over.nrm.isK = c.times x) (ei:c.over.nrm.isC.im = 0):c.over.nrm.isOk = true ∧ c.over.nrm.isK.nrm = c:=by
 have e1:c.over.nrm.isK.nrm = c:=by rw [e,nrm_times _ hx,nc]
 have e2:c.over.nrm.isK.pos = true:=by
  rw [e,pos_iff]
  have hp:=pos_iff.1 h
  have q:(c.times x).pow = c.pow * (x * x):=by
   show c.b.re * x * (c.b.re * x) + c.b.im * x * (c.b.im * x) - c.a * x * (c.c * x) = (c.b.re * c.b.re + c.b.im * c.b.im - c.a * c.c) * (x * x)
   grind
  have:=sq_nn x
  have:x * x ≠ 0:=fun e=>by rcases Rat.mul_eq_zero.1 e with k | k <;> exact hx k
  rw [q]
  exact Rat.mul_pos hp (by grind)
 refine ⟨?_,e1⟩
 unfold Mb.isOk
 rw [e2,e1,ei,decide_eq_true rfl]
 rfl
theorem of1:Cx.ofInt (1:Int) (0:Int) = ⟨1,0⟩:=by decide +kernel
theorem of2:Cx.ofInt (0:Int) (1:Int) = ⟨0,1⟩:=by decide +kernel
theorem is_over {c:Ci} (h:c.pos = true) (nc:c.nrm = c):c.over.nrm.isOk = true ∧ c.over.nrm.isK.nrm = c:=by
 by_cases ha:c.a = 0
 ·have hz:c.over.c.zero = true:=zero_iff.2 (by show Cx.mk c.a 0 = _; rw [ha])
  have hp:c.over.piv = c.b:=mpiv_1 hz
  have hb:c.b.zero = false:=by have:=over_piv h; rwa [hp] at this
  have hk:c.b.norm ≠ 0:=zero_norm hb
  have hn:=Rat.mul_inv_cancel _ hk
  have z1:c.over.nrm.c.zero = true:=by
   show (c.over.c.div c.over.piv).zero = true
   rw [hp,div_inv,mul_zero_iff (inv_zero hb)]; exact hz
  have ma:c.over.nrm.a = c.over.a.mul c.b.inv:=by show c.over.a.div c.over.piv = _; rw [hp,div_inv]
  have mb:c.over.nrm.b = c.over.b.mul c.b.inv:=by show c.over.b.div c.over.piv = _; rw [hp,div_inv]
  have eB:(Cx.mk 1 0).sub c.over.nrm.a.conj = c.b.scale (2 * c.b.re * c.b.norm⁻¹):=by
   rw [ma]
   obtain ⟨a,⟨b1,b2⟩,f⟩:=c
   generalize hi:(Cx.mk b1 b2).norm⁻¹ = i at hn ⊢
   refine Cx.ext' ?_ ?_ <;> simp only [Cx.inv,Cx.sub,Cx.conj,Cx.neg,Cx.mul,Cx.scale,Cx.norm,Ci.over] at hn hi ⊢ <;> rw [hi] <;> grind
  cases w:((Cx.ofInt (1:Int) (0:Int)).sub c.over.nrm.a.conj).zero with
  | false =>
   have k:2 * c.b.re * c.b.norm⁻¹ ≠ 0:=fun e=>by
    rw [of1,eB,e] at w
    rw [zero_iff.2 (show c.b.scale 0 = ⟨0,0⟩ from Cx.ext' (by show c.b.re * 0 = 0; grind) (by show c.b.im * 0 = 0; grind))] at w
    cases w
   obtain ⟨i1,i2⟩:=is_w1 z1 w
   refine is_of h nc k ?_ ?_
   ·rw [i1,of1,eB,mb]
    refine ci_ext ?_ rfl rfl ?_
    ·show 0 = c.a * _; rw [ha]; grind
    ·obtain ⟨a,⟨b1,b2⟩,f⟩:=c
     generalize hi:(Cx.mk b1 b2).norm⁻¹ = i at hn ⊢
     simp only [Cx.inv,Cx.conj,Cx.neg,Cx.mul,Cx.scale,Cx.norm,Ci.over,Ci.times] at hn hi ⊢
     rw [hi]; grind
   ·rw [i2,of1,eB,mb]
    obtain ⟨a,⟨b1,b2⟩,f⟩:=c
    generalize hi:(Cx.mk b1 b2).norm⁻¹ = i at hn ⊢
    simp only [Cx.inv,Cx.conj,Cx.neg,Cx.mul,Cx.scale,Cx.norm,Ci.over,Ci.times] at hn hi ⊢
    rw [hi]; grind
  | true =>
   have w' := zero_iff.1 w
   rw [of1,eB] at w'
   have w1:c.b.re * (2 * c.b.re * c.b.norm⁻¹) = 0:=congrArg Cx.re w'
   have w2:c.b.im * (2 * c.b.re * c.b.norm⁻¹) = 0:=congrArg Cx.im w'
   have hj:c.b.norm⁻¹ ≠ 0:=fun e=>by rw [e] at hn; grind
   have r0:c.b.re = 0:=by
    rcases Rat.mul_eq_zero.1 w1 with q | q
    ·exact q
    ·rcases Rat.mul_eq_zero.1 q with q | q
     ·grind
     ·exact absurd q hj
   obtain ⟨i1,i2⟩:=is_w2 z1 w
   have hm:c.b.norm = c.b.im * c.b.im:=by show c.b.re * c.b.re + c.b.im * c.b.im = _; rw [r0]; grind
   have k:c.b.im * c.b.norm⁻¹ ≠ 0:=fun e=>by
    rcases Rat.mul_eq_zero.1 e with q | q
    ·rw [hm,q] at hk; grind
    ·exact hj q
   refine is_of h nc k ?_ ?_
   ·rw [i1,of2,mb]
    obtain ⟨a,⟨b1,b2⟩,f⟩:=c
    generalize hi:(Cx.mk b1 b2).norm⁻¹ = i at hn ⊢
    simp only at r0 ha
    subst r0 ha
    simp only [Cx.inv,Cx.conj,Cx.neg,Cx.mul,Cx.scale,Cx.norm,Ci.over,Ci.times,Ci.mk.injEq,Cx.mk.injEq] at hn hi ⊢
    rw [hi]
    refine ⟨?_,⟨?_,?_⟩,?_⟩ <;> grind
   ·rw [i2,of2,mb]
    obtain ⟨a,⟨b1,b2⟩,f⟩:=c
    generalize hi:(Cx.mk b1 b2).norm⁻¹ = i at hn ⊢
    simp only at r0 ha
    subst r0 ha
    simp only [Cx.inv,Cx.conj,Cx.neg,Cx.mul,Cx.scale,Cx.norm,Ci.over] at hn hi ⊢
    rw [hi]; grind
 ·have a1:=in_one nc ha
  have hz:c.over.c.zero = false:=by
   cases e:c.over.c.zero with
   | false=>rfl
   | true=>exact absurd (congrArg Cx.re (zero_iff.1 e)) ha
  have hp:c.over.piv = ⟨1,0⟩:=by rw [mpiv_0 hz]; show Cx.mk c.a 0 = _; rw [a1]
  have hv:(Cx.mk 1 0).inv = ⟨1,0⟩:=by decide +kernel
  have en:c.over.nrm = c.over:=by rw [nrm_by', hp,hv,by_one]
  rw [en]
  rw [← en]
  have z1:c.over.nrm.c.zero = false:=by rw [en]; exact hz
  obtain ⟨i1,i2⟩:=is_w0 z1
  refine is_of h nc (x:=1) (by decide +kernel) ?_ ?_
  ·rw [i1,en,of1,mul_one']
   have q:Rat.divInt (1:Int) (1:Int) = 1:=by decide +kernel
   rw [q]
   refine ci_ext ?_ ?_ ?_ ?_
   ·show 1 = c.a * 1; rw [a1]; grind
   ·show c.b.re = c.b.re * 1; grind
   ·show c.b.im = c.b.im * 1; grind
   ·show - -c.c = c.c * 1; grind
  ·rw [i2,en,of1,mul_one']
   show -(0:Rat) = 0
   grind
def HB (z:Cx) (n:Nat):Prop:=ht z.re ≤ n ∧ ht z.im ≤ n
section
variable {x y z:Cx} {p q:Rat} {a b n:Nat}
theorem HB.two (h1:ht z.re ≤ a) (h2:ht z.im ≤ b) (n:Nat) (h:(Nat.ble a n && Nat.ble b n) = true:=by decide):HB z n:=by
 simp only [Bool.and_eq_true,Nat.ble_eq] at h
 exact ⟨Nat.le_trans h1 h.1,Nat.le_trans h2 h.2⟩
theorem HB.mul (h1:HB x a) (h2:HB y b) (n:Nat) (h:2 * a + 2 * b ≤ n:=by decide):HB (x.mul y) n:=by
 have:=hc_mul x y
 unfold HB at *; omega
theorem HB.add (h1:HB x a) (h2:HB y b) (n:Nat) (h:a + b ≤ n:=by decide):HB (x.add y) n:=by
 have:=hc_add x y
 unfold HB at *; omega
theorem HB.sub (h1:HB x a) (h2:HB y b) (n:Nat) (h:a + b ≤ n:=by decide):HB (x.sub y) n:=by
 have:=hc_sub x y
 unfold HB at *; omega
theorem HB.div (h1:HB x a) (h2:HB y b) (n:Nat) (h:6 * a + 6 * b ≤ n:=by decide):HB (x.div y) n:=by
 have:=hc_div x y
 unfold HB at *; omega
theorem HB.neg (h1:HB x a):HB x.neg a:=by have:=hc_neg x; unfold HB at *; omega
theorem HB.conj (h1:HB x a):HB x.conj a:=by have:=hc_conj x; unfold HB at *; omega
theorem HB.cj (t:Bool) (h1:HB x a):HB (cjC t x) a:=by have:=cj_ht t x; unfold HB at *; omega
theorem HB.scale (h1:HB x a) (h2:ht p ≤ b) (n:Nat) (h:a + b ≤ n:=by decide):HB (x.scale p) n:=by
 have:=hc_scale x p
 unfold HB at *; omega
theorem HB.norm (h1:HB x a) (n:Nat) (h:4 * a ≤ n:=by decide):ht x.norm ≤ n:=by
 have:=hc_norm x
 unfold HB at *; omega
theorem hb_add (h1:ht p ≤ a) (h2:ht q ≤ b) (n:Nat) (h:a + b ≤ n:=by decide):ht (p + q) ≤ n:=Nat.le_trans (ht_add p q) (Nat.le_trans (Nat.add_le_add h1 h2) h)
theorem hb_mul (h1:ht p ≤ a) (h2:ht q ≤ b) (n:Nat) (h:a + b ≤ n:=by decide):ht (p * q) ≤ n:=Nat.le_trans (ht_mul p q) (Nat.le_trans (Nat.add_le_add h1 h2) h)
theorem hb_ci {c:Ci} (h:ht c.a + ht c.b.re + ht c.b.im + ht c.c ≤ n):ht c.a ≤ n ∧ HB c.b n ∧ ht c.c ≤ n:=by unfold HB; omega
end
theorem over_l2 {k:Ci} (h:ht k.a + ht k.b.re + ht k.b.im + ht k.c ≤ 40000):ht k.over.a.re + ht k.over.a.im + ht k.over.b.re + ht k.over.b.im + ht k.over.c.re + ht k.over.c.im + ht k.over.d.re + ht k.over.d.im ≤ 200000:=by
 have h1:=ht_neg k.b.re
 have h2:=ht_neg (-k.b.im)
 have h3:=ht_neg k.b.im
 have h4:=ht_neg k.c
 have h5:=ht_zero
 show ht (-k.b.re) + ht (- -k.b.im) + ht (-k.c) + ht (0:Rat) + ht k.a + ht (0:Rat) + ht k.b.re + ht k.b.im ≤ _
 omega
theorem send_le {m:Mb} {p:Pn} (h:ht m.a.re + ht m.a.im + ht m.b.re + ht m.b.im + ht m.c.re + ht m.c.im + ht m.d.re + ht m.d.im ≤ 200000) (hp:ht p.z.re + ht p.z.im ≤ 200000):ht (m.send p).z.re + ht (m.send p).z.im ≤ 67108864:=by
 have z0:=ht_zero
 have key:∀ a b:Cx,ht a.re + ht a.im ≤ 2000000 → ht b.re + ht b.im ≤ 2000000 → ht (a.div b).re + ht (a.div b).im ≤ 67108864:=by
  intro a b h1 h2
  have h3:=hc_div a b
  omega
 have h1:=hc_conj p.z
 have h2:=hc_mul m.a p.z
 have h3:=hc_mul m.c p.z
 have h4:=hc_mul m.a p.z.conj
 have h5:=hc_mul m.c p.z.conj
 have h6:=hc_add (m.a.mul p.z) m.b
 have h7:=hc_add (m.c.mul p.z) m.d
 have h8:=hc_add (m.a.mul p.z.conj) m.b
 have h9:=hc_add (m.c.mul p.z.conj) m.d
 have hput:ht (m.put p).1.re + ht (m.put p).1.im ≤ 2000000 ∧ ht (m.put p).2.re + ht (m.put p).2.im ≤ 2000000:=by
  cases e:(!p.inf) with
  | false =>
   rw [put_i e]
   show ht m.a.re + ht m.a.im ≤ _ ∧ ht m.c.re + ht m.c.im ≤ _
   omega
  | true=>cases t:m.t with
   | true =>
    rw [put_n1 e t]
    show ht ((m.a.mul p.z.conj).add m.b).re + ht ((m.a.mul p.z.conj).add m.b).im ≤ _ ∧ ht ((m.c.mul p.z.conj).add m.d).re + ht ((m.c.mul p.z.conj).add m.d).im ≤ _
    omega
   | false =>
    rw [put_n0 e t]
    show ht ((m.a.mul p.z).add m.b).re + ht ((m.a.mul p.z).add m.b).im ≤ _ ∧ ht ((m.c.mul p.z).add m.d).re + ht ((m.c.mul p.z).add m.d).im ≤ _
    omega
 unfold Mb.send
 split
 ·show ht (0:Rat) + ht (0:Rat) ≤ _
  omega
 ·exact key _ _ hput.1 hput.2
end Go.Proofs.YtcpjdjnaipbieaaGreat
namespace Go.Proofs.YtcpjdjnaipbieaaGreat
open Go.RowKit Rgn
section
variable {r q:RCi} {e:Int}
end
def lg1 (r:RW):Bool:=decide (80 < (r.s.size:Int)) && decide ((r.s.size:Int) ≤ 1024)
def lgF (r:RF):Bool:=lg1 r.a || lg1 r.b
def lgG (r:RG):Bool:=lgF r.re || lgF r.im
section
variable {r:RF}
theorem lg_1 (h4:decide (80 < ((r.a.s.size:Nat):Int)) = true) (h5:decide (((r.a.s.size:Nat):Int) ≤ 1024) = true):Value.bool true = .bool (lgF r):=by unfold lgF lg1; rw [h4,h5]; rfl
theorem lg_2 (h4:decide (80 < ((r.a.s.size:Nat):Int)) = true) (h5:decide (((r.a.s.size:Nat):Int) ≤ 1024) = false) (h6:decide (80 < ((r.b.s.size:Nat):Int)) = true):Value.bool (decide (((r.b.s.size:Nat):Int) ≤ 1024)) = .bool (lgF r):=by unfold lgF lg1; rw [h4,h5,h6]; simp
theorem lg_3 (h4:decide (80 < ((r.a.s.size:Nat):Int)) = true) (h5:decide (((r.a.s.size:Nat):Int) ≤ 1024) = false) (h6:decide (80 < ((r.b.s.size:Nat):Int)) = false):Value.bool false = .bool (lgF r):=by unfold lgF lg1; rw [h4,h5,h6]; rfl
theorem lg_4 (h4:decide (80 < ((r.a.s.size:Nat):Int)) = false) (h6:decide (80 < ((r.b.s.size:Nat):Int)) = true):Value.bool (decide (((r.b.s.size:Nat):Int) ≤ 1024)) = .bool (lgF r):=by unfold lgF lg1; rw [h4,h6]; simp
theorem lg_5 (h4:decide (80 < ((r.a.s.size:Nat):Int)) = false) (h6:decide (80 < ((r.b.s.size:Nat):Int)) = false):Value.bool false = .bool (lgF r):=by unfold lgF lg1; rw [h4,h6]; rfl
end
structure PnF (P:Pn):Prop where
 z:P.inf = true → P.z = ⟨0,0⟩
 f:pnfits P = true
theorem pnOk_ex {r:RPn} (h:pnOk r = true):∃ P,r = pnR P ∧ PnF P:=by
 unfold pnOk at h
 split at h
 ·have:=of_decide_eq_true h
  exact ⟨⟨true,⟨0,0⟩⟩,this,fun _=>rfl,rfl⟩
 ·rename_i hi
  obtain ⟨i,z⟩:=r
  cases i with
  | true=>exact absurd rfl hi
  | false =>
   obtain ⟨c,rfl⟩:=gmay_ex h
   rw [gmay_rg] at h
   exact ⟨⟨false,c⟩,rfl,⟨fun h=>(by cases h),h⟩⟩
theorem PnF.ht {P:Pn} (h:PnF P):ht P.z.re + ht P.z.im ≤ 20000:=by
 cases e:P.inf with
 | true=>rw [h.z e]; decide
 | false =>
  have:=h.f
  unfold pnfits at this
  rw [e] at this
  exact gfits_ht2 this
theorem pnR_I {P:Pn} (h:PnF P) (e:P.inf = true):P = ⟨true,⟨0,0⟩⟩:=by
 obtain ⟨i,z⟩:=P
 cases e
 have:=h.z rfl
 subst this; rfl
theorem img_1 {m:Mb} {c:Ci} (h:m.t = true):Ci.mk (c.at m.undo.a m.undo.c) (c.mid m.undo).conj (c.at m.undo.b m.undo.d) = m.img c:=by unfold Mb.img Ci.im cjC; rw [if_pos h]
theorem img_0 {m:Mb} {c:Ci} (h:m.t = false):Ci.mk (c.at m.undo.a m.undo.c) (c.mid m.undo) (c.at m.undo.b m.undo.d) = m.img c:=by unfold Mb.img Ci.im cjC; rw [if_neg (by rw [h]; decide)]
section
variable {m:Mb} {c:Ci} (h:m.det.zero = false) (hc:c.pos = true)
include h hc
theorem imgF_1 (e:m.t = true):(Ci.mk (c.at m.undo.a m.undo.c) (c.mid m.undo).conj (c.at m.undo.b m.undo.d)).flat = false:=by rw [img_1 e]; exact pos_flat (img_pos h hc)
theorem imgF_0 (e:m.t = false):(Ci.mk (c.at m.undo.a m.undo.c) (c.mid m.undo) (c.at m.undo.b m.undo.d)).flat = false:=by rw [img_0 e]; exact pos_flat (img_pos h hc)
end
theorem imgE_1 {m:Mb} {c:Ci} (e:m.t = true):(Ci.mk (c.at m.undo.a m.undo.c) (((((m.undo.a.mul m.undo.b.conj).scale c.a).add ((c.b.mul m.undo.a).mul m.undo.d.conj)).add ((c.b.mul m.undo.b).conj.mul m.undo.c)).add ((m.undo.c.mul m.undo.d.conj).scale c.c)).conj (c.at m.undo.b m.undo.d)).nrm = (m.img c).nrm:=by rw [mid_eq,img_1 e]
theorem imgE_0 {m:Mb} {c:Ci} (e:m.t = false):(Ci.mk (c.at m.undo.a m.undo.c) (((((m.undo.a.mul m.undo.b.conj).scale c.a).add ((c.b.mul m.undo.a).mul m.undo.d.conj)).add ((c.b.mul m.undo.b).conj.mul m.undo.c)).add ((m.undo.c.mul m.undo.d.conj).scale c.c)) (c.at m.undo.b m.undo.d)).nrm = (m.img c).nrm:=by rw [mid_eq,img_0 e]
theorem imgF_1' {m:Mb} {c:Ci} (h:m.det.zero = false) (hc:c.pos = true) (e:m.t = true):(Ci.mk (c.at m.undo.a m.undo.c) (((((m.undo.a.mul m.undo.b.conj).scale c.a).add ((c.b.mul m.undo.a).mul m.undo.d.conj)).add ((c.b.mul m.undo.b).conj.mul m.undo.c)).add ((m.undo.c.mul m.undo.d.conj).scale c.c)).conj (c.at m.undo.b m.undo.d)).flat = false:=by rw [mid_eq]; exact imgF_1 h hc e
theorem imgF_0' {m:Mb} {c:Ci} (h:m.det.zero = false) (hc:c.pos = true) (e:m.t = false):(Ci.mk (c.at m.undo.a m.undo.c) (((((m.undo.a.mul m.undo.b.conj).scale c.a).add ((c.b.mul m.undo.a).mul m.undo.d.conj)).add ((c.b.mul m.undo.b).conj.mul m.undo.c)).add ((m.undo.c.mul m.undo.d.conj).scale c.c)) (c.at m.undo.b m.undo.d)).flat = false:=by rw [mid_eq]; exact imgF_0 h hc e
def Mb.ub (m:Mb) (n:Nat):Prop:=HB m.undo.a n ∧ HB m.undo.b n ∧ HB m.undo.c n ∧ HB m.undo.d n
theorem undo_up {m:Mb} (h:m.ub (6 * 200000)):m.ub 2400000:=by unfold Mb.ub HB at h ⊢; omega
theorem undo_le {m:Mb} {n:Nat} (h:ht m.a.re + ht m.a.im + ht m.b.re + ht m.b.im + ht m.c.re + ht m.c.im + ht m.d.re + ht m.d.im ≤ n):m.ub (6 * n):=by
 unfold Mb.ub HB
 let x:Mb:=Mb.cjM m.t ⟨m.d,m.b.neg,m.c.neg,m.a,m.t⟩
 have h1:=mnrm_ht x
 have h2:=mpiv_ht x
 have c1:=cj_ht m.t m.d
 have c2:=cj_ht m.t m.b.neg
 have c3:=cj_ht m.t m.c.neg
 have c4:=cj_ht m.t m.a
 have n1:=hc_neg m.b
 have n2:=hc_neg m.c
 have e:m.undo = x.nrm:=rfl
 have ea:x.a = cjC m.t m.d:=rfl
 have eb:x.b = cjC m.t m.b.neg:=rfl
 have ec:x.c = cjC m.t m.c.neg:=rfl
 have ed:x.d = cjC m.t m.a:=rfl
 rw [e]
 generalize x = y at *
 unfold Mb.hh Cx.hh at h2
 unfold Cx.hh at h1
 rw [ea,eb,ec,ed] at h2 h1
 omega
theorem at_hb {c:Ci} {v w:Cx} {A B E n k:Nat} (h1:ht c.a ≤ A) (h2:HB c.b B) (h3:ht c.c ≤ E) (hv:HB v n) (hw:HB w k) (N:Nat) (h:A + 4 * n + E + 4 * k + 2 * (2 * (2 * B + 2 * n) + 2 * k) ≤ N:=by decide):ht (c.at v w) ≤ N:=by
 have k1:=HB.mul (HB.mul h2 hv (2 * B + 2 * n) (Nat.le_refl _)) hw.conj (2 * (2 * B + 2 * n) + 2 * k) (Nat.le_refl _)
 have k2:=hb_add k1.1 k1.1 _ (Nat.le_refl _)
 have k3:=hb_mul h1 (hv.norm (4 * n) (Nat.le_refl _)) _ (Nat.le_refl _)
 have k4:=hb_mul h3 (hw.norm (4 * k) (Nat.le_refl _)) _ (Nat.le_refl _)
 exact hb_add (hb_add k3 k4 _ (Nat.le_refl _)) k2 N (by omega)
theorem at_ht {c:Ci} {v w:Cx} {n:Nat} (h:ht c.a + ht c.b.re + ht c.b.im + ht c.c ≤ 40000) (h1:HB v n) (h2:HB w n):ht (c.at v w) ≤ 20 * n + 400000:=by
 obtain ⟨e1,e2,e3⟩:=hb_ci h
 exact at_hb e1 e2 e3 h1 h2 _ (by omega)
theorem mid_ht {c:Ci} {x:Mb} {n:Nat} (h:ht c.a + ht c.b.re + ht c.b.im + ht c.c ≤ 40000) (h1:HB x.a n) (h2:HB x.b n) (h3:HB x.c n) (h4:HB x.d n):ht (c.mid x).re ≤ 40 * n + 400000 ∧ ht (c.mid x).im ≤ 40 * n + 400000:=by
 have z0:=ht_zero
 have k0:=hc_conj x.b
 have k1:=hc_mul x.a x.b.conj
 have k2:=hc_mul (Cx.mk c.a 0) (x.a.mul x.b.conj)
 have k3:=hc_mul c.b x.a
 have k4:=hc_conj x.d
 have k5:=hc_mul (c.b.mul x.a) x.d.conj
 have k7:=hc_mul c.b x.b
 have k8:=hc_conj (c.b.mul x.b)
 have k9:=hc_mul (c.b.mul x.b).conj x.c
 have k11:=hc_mul x.c x.d.conj
 have k12:=hc_mul (Cx.mk c.c 0) (x.c.mul x.d.conj)
 have k6:=hc_add ((Cx.mk c.a 0).mul (x.a.mul x.b.conj)) ((c.b.mul x.a).mul x.d.conj)
 have k10:=hc_add (((Cx.mk c.a 0).mul (x.a.mul x.b.conj)).add ((c.b.mul x.a).mul x.d.conj)) ((c.b.mul x.b).conj.mul x.c)
 have k13:=hc_add ((((Cx.mk c.a 0).mul (x.a.mul x.b.conj)).add ((c.b.mul x.a).mul x.d.conj)).add ((c.b.mul x.b).conj.mul x.c)) ((Cx.mk c.c 0).mul (x.c.mul x.d.conj))
 unfold Ci.mid
 unfold HB at *
 first | omega | (dsimp only at *; omega)
theorem img_le {m:Mb} {c:Ci} (u:m.ub (6 * 200000)) (h:ht c.a + ht c.b.re + ht c.b.im + ht c.c ≤ 40000):ht (m.img c).nrm.a + ht (m.img c).nrm.b.re + ht (m.img c).nrm.b.im + ht (m.img c).nrm.c ≤ 1073741824:=by
 obtain ⟨u1,u2,u3,u4⟩:=u
 have a1:=at_ht h u1 u3
 have a2:=at_ht h u2 u4
 have a3:=mid_ht h u1 u2 u3 u4
 have a4:=cj_ht m.t (c.mid m.undo)
 have e1:(m.img c).a = c.at m.undo.a m.undo.c:=rfl
 have e2:(m.img c).b = cjC m.t (c.mid m.undo):=rfl
 have e3:(m.img c).c = c.at m.undo.b m.undo.d:=rfl
 have h1:=nrm_ht (m.img c)
 have h2:=piv_ht (m.img c)
 unfold Ci.hh Cx.hh at h2
 rw [e1,e2,e3] at h1 h2
 omega
theorem over_dt {c:Ci} (h:ciOk (rci c) = true):c.over.det.zero = false:=by
 cases e:c.over.det.zero with
 | false=>rfl
 | true =>
  have h1:=zero_iff.1 e
  rw [over_det] at h1
  have h2:=pos_iff.1 (ciOk_c h).2.1
  have h3:-c.pow = 0:=congrArg Cx.re h1
  grind
theorem imgT {c d:Ci} (p0:ciOk (rci c) = true) (p1:ciOk (rci d) = true):Value.tuple #[rciV (cicut (c.over.img d).nrm.nrm),.int .i64 (cierr (c.over.img d).nrm.nrm)] = .tuple #[rciV (cicut (c.over.nrm.img d).nrm),.int .i64 (cierr (c.over.nrm.img d).nrm)]:=by
 rw [img_nrm (over_piv (ciOk_c p0).2.1),nrm_nrm (pos_flat (img_pos (over_dt p0) (ciOk_c p1).2.1))]
theorem pnOk_pnR {P:Pn} (h:PnF P):pnOk (pnR P) = true:=by
 have hf:=h.f
 obtain ⟨i,z⟩:=P
 cases i with
 | true=>exact decide_eq_true (p:=RPn.mk true rz = RPn.mk true rz) rfl
 | false =>
  show gmay (rg z) = true
  rw [gmay_rg]; exact hf
theorem ptT {c:Ci} {P:Pn} (p0:ciOk (rci c) = true):Value.tuple #[rpnV (pncut (c.over.send P)),.int .i64 (pnerr (c.over.send P))] = .tuple #[rpnV (pncut (c.over.nrm.send P)),.int .i64 (pnerr (c.over.nrm.send P))]:=by rw [send_nrm (over_piv (ciOk_c p0).2.1)]
theorem sendZ {m:Mb} {p:Pn}:(m.send p).inf = true → (m.send p).z = ⟨0,0⟩:=by
 unfold Mb.send
 split
 ·exact fun _=>rfl
 ·exact fun h=>by cases h
def lgC (c:RCi):Bool:=lgF c.a || lgG c.b || lgF c.c
end Go.Proofs.YtcpjdjnaipbieaaGreat
namespace Go.Proofs.YtcpjdjnaipbieaaGreat
open Go.RowKit Rgn
set_option maxHeartbeats 4000000
set_option maxRecDepth 100000
variable {S:Nat → Prop} {W:World}
theorem eRatF0 (r:RF) (p0:wformed r.a = false) :
  Calls Tryz.prog 198 #[rfV r] W (RetV (.pointer none) W):=by
 have bel:=b0 W
 go_enter Tryz.func198,Tryz.ntmps198
 refine gs 2 (Amb Z0 W) fun _ K1=>?_
 refine .bx rfl (fun H=>H.v 0 (rfV r)) ?_
 refine .mc rfl ?_
 refine .dk (fun u=>rfV r::u 0::u 1::us 61) K1 bel fun u1 w1 D bel=>?_
 obtain ⟨b2,E1_0,A2,B2⟩:=D.nw 0
 have E1_1:=D.q 1
 clear D
 refine wp_seq_k fun _ K3=>?_
 refine gs 35 (Amb Z0 W) fun _ K4=>?_
 refine .fz rfl 1 0 E1_0 ?_
 refine .lp rfl 0 (rwC r.a) B2 ?_
 refine .cK rfl (V:=.bool false) Tryz.func256 (fun H=>⟨_,ar1 (H.g 7 1),reV (congrArg Value.bool p0) (eFormed _)⟩) ?_
 refine .e rfl (V:=.bool true) (fun H=>x_not (H.g 8 2)) ?_
 refine .mv rfl 3 ?_
 refine .sk rfl 4 ?_
 refine .sk rfl 4 ?_
 refine .sk rfl 4 ?_
 refine .sk rfl 4 ?_
 refine .e rfl (fun H=>x_pkT (H.g 10 4) (H.c _)) ?_
 refine .mv rfl 9 ?_
 refine .sk rfl 10 ?_
 refine .sk rfl 10 ?_
 refine .sk rfl 10 ?_
 refine .e rfl (fun H=>x_pkT (H.g 16 10) (H.c _)) ?_
 refine .mv rfl 14 ?_
 refine .sk rfl 15 ?_
 refine .sk rfl 15 ?_
 refine .sk rfl 15 ?_
 refine .sk rfl 15 ?_
 refine .e rfl (fun H=>x_pkT (H.g 21 15) (H.c _)) ?_
 refine .mv rfl 20 ?_
 refine .sk rfl 21 ?_
 refine .sk rfl 21 ?_
 refine .sk rfl 21 ?_
 refine .sk rfl 21 ?_
 refine .sk rfl 21 ?_
 refine .e rfl (fun H=>x_pkT (H.g 27 21) (H.c _)) ?_
 refine .mv rfl 27 ?_
 refine .sk rfl 28 ?_
 refine .sk rfl 28 ?_
 refine .sk rfl 28 ?_
 refine .sk rfl 28 ?_
 refine .sk rfl 28 ?_
 refine .e rfl (fun H=>x_pkT (H.g 34 28) (H.c _)) ?_
 refine .dk (fun u=>rfV r::u1 0::u1 1::U::U::U::sq u 0 35 (us 23)) K4 bel fun u2 w2 D bel=>?_
 have E2_34:=D.q 34
 replace B2:=D.k B2
 clear D
 refine wp_cond_true (by exact E2_34) ?_
 refine gs 1 (Amb Z0 W) fun _ K5=>?_
 refine .mc rfl ?_
 refine .dk (fun u=>rfV r::u1 0::u 0::U::U::U::sq u2 0 35 (us 23)) K5 bel fun u3 w3 D bel=>?_
 have E3_0:=D.q 0
 clear D
 exact wp_ret (rt rfl E3_0 rfl bel)
theorem eRatF1 (r:RF) (p0:wformed r.a = true) (p1:wformed r.b = false) :
  Calls Tryz.prog 198 #[rfV r] W (RetV (.pointer none) W):=by
 have bel:=b0 W
 go_enter Tryz.func198,Tryz.ntmps198
 refine gs 2 (Amb Z0 W) fun _ K1=>?_
 refine .bx rfl (fun H=>H.v 0 (rfV r)) ?_
 refine .mc rfl ?_
 refine .dk (fun u=>rfV r::u 0::u 1::us 61) K1 bel fun u1 w1 D bel=>?_
 obtain ⟨b2,E1_0,A2,B2⟩:=D.nw 0
 have E1_1:=D.q 1
 clear D
 refine wp_seq_k fun _ K3=>?_
 refine gs 35 (Amb Z0 W) fun _ K4=>?_
 refine .fz rfl 1 0 E1_0 ?_
 refine .lp rfl 0 (rwC r.a) B2 ?_
 refine .cK rfl (V:=.bool true) Tryz.func256 (fun H=>⟨_,ar1 (H.g 7 1),reV (congrArg Value.bool p0) (eFormed _)⟩) ?_
 refine .e rfl (V:=.bool false) (fun H=>x_not (H.g 8 2)) ?_
 refine .mv rfl 3 ?_
 refine .fz rfl 1 2 E1_0 ?_ (hg:=gq 4 rfl)
 refine .lp rfl 5 (rwC r.b) B2 ?_ (hg:=gq 4 rfl)
 refine .cK rfl (V:=.bool false) Tryz.func256 (fun H=>⟨_,ar1 (H.g 12 6),reV (congrArg Value.bool p1) (eFormed _)⟩) ?_ (hg:=gq 4 rfl)
 refine .e rfl (V:=.bool true) (fun H=>x_not (H.g 13 7)) ?_ (hg:=gq 4 rfl)
 refine .e rfl (fun H=>x_pkF (H.g 10 4) (H.g 14 8)) ?_
 refine .mv rfl 9 ?_
 refine .sk rfl 10 ?_
 refine .sk rfl 10 ?_
 refine .sk rfl 10 ?_
 refine .e rfl (fun H=>x_pkT (H.g 16 10) (H.c _)) ?_
 refine .mv rfl 14 ?_
 refine .sk rfl 15 ?_
 refine .sk rfl 15 ?_
 refine .sk rfl 15 ?_
 refine .sk rfl 15 ?_
 refine .e rfl (fun H=>x_pkT (H.g 21 15) (H.c _)) ?_
 refine .mv rfl 20 ?_
 refine .sk rfl 21 ?_
 refine .sk rfl 21 ?_
 refine .sk rfl 21 ?_
 refine .sk rfl 21 ?_
 refine .sk rfl 21 ?_
 refine .e rfl (fun H=>x_pkT (H.g 27 21) (H.c _)) ?_
 refine .mv rfl 27 ?_
 refine .sk rfl 28 ?_
 refine .sk rfl 28 ?_
 refine .sk rfl 28 ?_
 refine .sk rfl 28 ?_
 refine .sk rfl 28 ?_
 refine .e rfl (fun H=>x_pkT (H.g 34 28) (H.c _)) ?_
 refine .dk (fun u=>rfV r::u1 0::u1 1::U::U::U::sq u 0 35 (us 23)) K4 bel fun u2 w2 D bel=>?_
 have E2_34:=D.q 34
 replace B2:=D.k B2
 clear D
 refine wp_cond_true (by exact E2_34) ?_
 refine gs 1 (Amb Z0 W) fun _ K5=>?_
 refine .mc rfl ?_
 refine .dk (fun u=>rfV r::u1 0::u 0::U::U::U::sq u2 0 35 (us 23)) K5 bel fun u3 w3 D bel=>?_
 have E3_0:=D.q 0
 clear D
 exact wp_ret (rt rfl E3_0 rfl bel)
theorem eRatW (g:Int × Int) (p0:fmay (RF.mk (rw g.1) (rw g.2)) = false) :
  Calls Tryz.prog 198 #[wwV g] W (RetV (.pointer none) W):=by
 have b1:hi g.1 ≤ 8 * (bS g.1.natAbs).size + 1:=hi_bytes g.1
 have b2:hi g.2 ≤ 8 * (bS g.2.natAbs).size + 1:=hi_bytes g.2
 have b3:=hi_num (Rat.divInt g.1 g.2)
 have b4:=hi_den (Rat.divInt g.1 g.2)
 have bel:=b0 W
 go_enter Tryz.func198,Tryz.ntmps198
 refine gs 2 (Amb Z0 W) fun _ K1=>?_
 refine .bx rfl (fun H=>H.v 0 (wwV g)) ?_
 refine .mc rfl ?_
 refine .dk (fun u=>wwV g::u 0::u 1::us 61) K1 bel fun u1 w1 D bel=>?_
 obtain ⟨b2,E1_0,A2,B2⟩:=D.nw 0
 have E1_1:=D.q 1
 clear D
 refine wp_seq_k fun _ K3=>?_
 rcases Bool.eq_false_or_eq_true (decide (g.2 < 0)) with c5 | c5
 ·
  have dc5:=of_decide_eq_true c5
  refine gs 35 (Amb Z0 W) fun _ K4=>?_
  refine .fz rfl 1 0 E1_0 ?_
  refine .lp rfl 0 (wC g.1) B2 ?_
  refine .cK rfl (V:=.bool true) Tryz.func256 (fun H=>⟨_,ar1 (H.g 7 1),reV (congrArg Value.bool (wformed_rw _)) (eFormed (rw g.1))⟩) ?_
  refine .e rfl (V:=.bool false) (fun H=>x_not (H.g 8 2)) ?_
  refine .mv rfl 3 ?_
  refine .fz rfl 1 2 E1_0 ?_ (hg:=gq 4 rfl)
  refine .lp rfl 5 (wC g.2) B2 ?_ (hg:=gq 4 rfl)
  refine .cK rfl (V:=.bool true) Tryz.func256 (fun H=>⟨_,ar1 (H.g 12 6),reV (congrArg Value.bool (wformed_rw _)) (eFormed (rw g.2))⟩) ?_ (hg:=gq 4 rfl)
  refine .e rfl (V:=.bool false) (fun H=>x_not (H.g 13 7)) ?_ (hg:=gq 4 rfl)
  refine .e rfl (fun H=>x_pkF (H.g 10 4) (H.g 14 8)) ?_
  refine .mv rfl 9 ?_
  refine .fz rfl 1 2 E1_0 ?_ (hg:=gq 10 rfl)
  refine .fj rfl 11 2 ?_ (hg:=gq 10 rfl)
  refine .e rfl (V:=.bool true) (fun H=>by have e18:=H.g 18 12; have c1:=cell_of (off:=2) (H.b B2) rfl; have k_:=c5; clear H; go_simp <;> first | (simp_all; done) | omega | exact len_gt z0_) ?_ (hg:=gq 10 rfl)
  refine .e rfl (fun H=>x_pkF (H.g 16 10) (H.g 19 13)) ?_
  refine .mv rfl 14 ?_
  refine .sk rfl 15 ?_
  refine .sk rfl 15 ?_
  refine .sk rfl 15 ?_
  refine .sk rfl 15 ?_
  refine .e rfl (fun H=>x_pkT (H.g 21 15) (H.c _)) ?_
  refine .mv rfl 20 ?_
  refine .sk rfl 21 ?_
  refine .sk rfl 21 ?_
  refine .sk rfl 21 ?_
  refine .sk rfl 21 ?_
  refine .sk rfl 21 ?_
  refine .e rfl (fun H=>x_pkT (H.g 27 21) (H.c _)) ?_
  refine .mv rfl 27 ?_
  refine .sk rfl 28 ?_
  refine .sk rfl 28 ?_
  refine .sk rfl 28 ?_
  refine .sk rfl 28 ?_
  refine .sk rfl 28 ?_
  refine .e rfl (fun H=>x_pkT (H.g 34 28) (H.c _)) ?_
  refine .dk (fun u=>wwV g::u1 0::u1 1::U::U::U::sq u 0 35 (us 23)) K4 bel fun u2 w2 D bel=>?_
  have E2_34:=D.q 34
  replace B2:=D.k B2
  clear D
  refine wp_cond_true (by exact E2_34) ?_
  refine gs 1 (Amb Z0 W) fun _ K6=>?_
  refine .mc rfl ?_
  refine .dk (fun u=>wwV g::u1 0::u 0::U::U::U::sq u2 0 35 (us 23)) K6 bel fun u3 w3 D bel=>?_
  have E3_0:=D.q 0
  clear D
  exact wp_ret (rt rfl E3_0 rfl bel)
 ·
  have dc5:=of_decide_eq_false c5
  rcases Bool.eq_false_or_eq_true (decide (g.2.natAbs = 0)) with c7 | c7
  ·
   have dc7:=of_decide_eq_true c7
   refine gs 35 (Amb Z0 W) fun _ K4=>?_
   refine .fz rfl 1 0 E1_0 ?_
   refine .lp rfl 0 (wC g.1) B2 ?_
   refine .cK rfl (V:=.bool true) Tryz.func256 (fun H=>⟨_,ar1 (H.g 7 1),reV (congrArg Value.bool (wformed_rw _)) (eFormed (rw g.1))⟩) ?_
   refine .e rfl (V:=.bool false) (fun H=>x_not (H.g 8 2)) ?_
   refine .mv rfl 3 ?_
   refine .fz rfl 1 2 E1_0 ?_ (hg:=gq 4 rfl)
   refine .lp rfl 5 (wC g.2) B2 ?_ (hg:=gq 4 rfl)
   refine .cK rfl (V:=.bool true) Tryz.func256 (fun H=>⟨_,ar1 (H.g 12 6),reV (congrArg Value.bool (wformed_rw _)) (eFormed (rw g.2))⟩) ?_ (hg:=gq 4 rfl)
   refine .e rfl (V:=.bool false) (fun H=>x_not (H.g 13 7)) ?_ (hg:=gq 4 rfl)
   refine .e rfl (fun H=>x_pkF (H.g 10 4) (H.g 14 8)) ?_
   refine .mv rfl 9 ?_
   refine .fz rfl 1 2 E1_0 ?_ (hg:=gq 10 rfl)
   refine .fj rfl 11 2 ?_ (hg:=gq 10 rfl)
   refine .e rfl (V:=.bool false) (fun H=>by have e18:=H.g 18 12; have c1:=cell_of (off:=2) (H.b B2) rfl; have k_:=c5; clear H; go_simp <;> first | (simp_all; done) | omega | exact len_gt z0_) ?_ (hg:=gq 10 rfl)
   refine .e rfl (fun H=>x_pkF (H.g 16 10) (H.g 19 13)) ?_
   refine .mv rfl 14 ?_
   refine .fz rfl 1 2 E1_0 ?_ (hg:=gq 15 rfl)
   refine .fj rfl 16 3 ?_ (hg:=gq 15 rfl)
   refine .lc rfl 17 B2 ?_ (V:=.string (bS g.2.natAbs)) (hg:=gq 15 rfl)
   refine .e rfl (V:=.bool true) (fun H=>by have e24:=H.g 24 18; have k1:=H.c (.string (ByteArray.mk #[])); have s_:=bS_empty g.2.natAbs; have k_:=c7; clear H; go_simp <;> first | (simp_all; done) | omega | exact len_gt z0_) ?_ (hg:=gq 15 rfl)
   refine .e rfl (fun H=>x_pkF (H.g 21 15) (H.g 25 19)) ?_
   refine .mv rfl 20 ?_
   refine .sk rfl 21 ?_
   refine .sk rfl 21 ?_
   refine .sk rfl 21 ?_
   refine .sk rfl 21 ?_
   refine .sk rfl 21 ?_
   refine .e rfl (fun H=>x_pkT (H.g 27 21) (H.c _)) ?_
   refine .mv rfl 27 ?_
   refine .sk rfl 28 ?_
   refine .sk rfl 28 ?_
   refine .sk rfl 28 ?_
   refine .sk rfl 28 ?_
   refine .sk rfl 28 ?_
   refine .e rfl (fun H=>x_pkT (H.g 34 28) (H.c _)) ?_
   refine .dk (fun u=>wwV g::u1 0::u1 1::U::U::U::sq u 0 35 (us 23)) K4 bel fun u2 w2 D bel=>?_
   have E2_34:=D.q 34
   replace B2:=D.k B2
   clear D
   refine wp_cond_true (by exact E2_34) ?_
   refine gs 1 (Amb Z0 W) fun _ K8=>?_
   refine .mc rfl ?_
   refine .dk (fun u=>wwV g::u1 0::u 0::U::U::U::sq u2 0 35 (us 23)) K8 bel fun u3 w3 D bel=>?_
   have E3_0:=D.q 0
   clear D
   exact wp_ret (rt rfl E3_0 rfl bel)
  ·
   have dc7:=of_decide_eq_false c7
   rcases Bool.eq_false_or_eq_true (decide (1024 < (((bS g.1.natAbs).size:Nat):Int))) with c9 | c9
   ·
    have dc9:=of_decide_eq_true c9
    refine gs 35 (Amb Z0 W) fun _ K4=>?_
    refine .fz rfl 1 0 E1_0 ?_
    refine .lp rfl 0 (wC g.1) B2 ?_
    refine .cK rfl (V:=.bool true) Tryz.func256 (fun H=>⟨_,ar1 (H.g 7 1),reV (congrArg Value.bool (wformed_rw _)) (eFormed (rw g.1))⟩) ?_
    refine .e rfl (V:=.bool false) (fun H=>x_not (H.g 8 2)) ?_
    refine .mv rfl 3 ?_
    refine .fz rfl 1 2 E1_0 ?_ (hg:=gq 4 rfl)
    refine .lp rfl 5 (wC g.2) B2 ?_ (hg:=gq 4 rfl)
    refine .cK rfl (V:=.bool true) Tryz.func256 (fun H=>⟨_,ar1 (H.g 12 6),reV (congrArg Value.bool (wformed_rw _)) (eFormed (rw g.2))⟩) ?_ (hg:=gq 4 rfl)
    refine .e rfl (V:=.bool false) (fun H=>x_not (H.g 13 7)) ?_ (hg:=gq 4 rfl)
    refine .e rfl (fun H=>x_pkF (H.g 10 4) (H.g 14 8)) ?_
    refine .mv rfl 9 ?_
    refine .fz rfl 1 2 E1_0 ?_ (hg:=gq 10 rfl)
    refine .fj rfl 11 2 ?_ (hg:=gq 10 rfl)
    refine .e rfl (V:=.bool false) (fun H=>by have e18:=H.g 18 12; have c1:=cell_of (off:=2) (H.b B2) rfl; have k_:=c5; clear H; go_simp <;> first | (simp_all; done) | omega | exact len_gt z0_) ?_ (hg:=gq 10 rfl)
    refine .e rfl (fun H=>x_pkF (H.g 16 10) (H.g 19 13)) ?_
    refine .mv rfl 14 ?_
    refine .fz rfl 1 2 E1_0 ?_ (hg:=gq 15 rfl)
    refine .fj rfl 16 3 ?_ (hg:=gq 15 rfl)
    refine .lc rfl 17 B2 ?_ (V:=.string (bS g.2.natAbs)) (hg:=gq 15 rfl)
    refine .e rfl (V:=.bool false) (fun H=>by have e24:=H.g 24 18; have k1:=H.c (.string (ByteArray.mk #[])); have s_:=bS_empty g.2.natAbs; have k_:=c7; clear H; go_simp <;> first | (simp_all; done) | omega | exact len_gt z0_) ?_ (hg:=gq 15 rfl)
    refine .e rfl (fun H=>x_pkF (H.g 21 15) (H.g 25 19)) ?_
    refine .mv rfl 20 ?_
    refine .fz rfl 1 0 E1_0 ?_ (hg:=gq 21 rfl)
    refine .fj rfl 22 1 ?_ (hg:=gq 21 rfl)
    refine .lc rfl 23 B2 ?_ (V:=.string (bS g.1.natAbs)) (hg:=gq 21 rfl)
    refine .e rfl (V:=.int .i64 (((bS g.1.natAbs).size:Nat):Int)) (fun H=>by have e30:=H.g 30 24; clear H; go_simp) ?_ (hg:=gq 21 rfl)
    refine .e rfl (V:=.bool true) (fun H=>x_cm (H.g 31 25) (H.c _) c9) ?_ (hg:=gq 21 rfl)
    refine .e rfl (fun H=>x_pkF (H.g 27 21) (H.g 32 26)) ?_
    refine .mv rfl 27 ?_
    refine .sk rfl 28 ?_
    refine .sk rfl 28 ?_
    refine .sk rfl 28 ?_
    refine .sk rfl 28 ?_
    refine .sk rfl 28 ?_
    refine .e rfl (fun H=>x_pkT (H.g 34 28) (H.c _)) ?_
    refine .dk (fun u=>wwV g::u1 0::u1 1::U::U::U::sq u 0 35 (us 23)) K4 bel fun u2 w2 D bel=>?_
    have E2_34:=D.q 34
    replace B2:=D.k B2
    clear D
    refine wp_cond_true (by exact E2_34) ?_
    refine gs 1 (Amb Z0 W) fun _ K10=>?_
    refine .mc rfl ?_
    refine .dk (fun u=>wwV g::u1 0::u 0::U::U::U::sq u2 0 35 (us 23)) K10 bel fun u3 w3 D bel=>?_
    have E3_0:=D.q 0
    clear D
    exact wp_ret (rt rfl E3_0 rfl bel)
   ·
    have dc9:=of_decide_eq_false c9
    refine gs 35 (Amb Z0 W) fun _ K4=>?_
    refine .fz rfl 1 0 E1_0 ?_
    refine .lp rfl 0 (wC g.1) B2 ?_
    refine .cK rfl (V:=.bool true) Tryz.func256 (fun H=>⟨_,ar1 (H.g 7 1),reV (congrArg Value.bool (wformed_rw _)) (eFormed (rw g.1))⟩) ?_
    refine .e rfl (V:=.bool false) (fun H=>x_not (H.g 8 2)) ?_
    refine .mv rfl 3 ?_
    refine .fz rfl 1 2 E1_0 ?_ (hg:=gq 4 rfl)
    refine .lp rfl 5 (wC g.2) B2 ?_ (hg:=gq 4 rfl)
    refine .cK rfl (V:=.bool true) Tryz.func256 (fun H=>⟨_,ar1 (H.g 12 6),reV (congrArg Value.bool (wformed_rw _)) (eFormed (rw g.2))⟩) ?_ (hg:=gq 4 rfl)
    refine .e rfl (V:=.bool false) (fun H=>x_not (H.g 13 7)) ?_ (hg:=gq 4 rfl)
    refine .e rfl (fun H=>x_pkF (H.g 10 4) (H.g 14 8)) ?_
    refine .mv rfl 9 ?_
    refine .fz rfl 1 2 E1_0 ?_ (hg:=gq 10 rfl)
    refine .fj rfl 11 2 ?_ (hg:=gq 10 rfl)
    refine .e rfl (V:=.bool false) (fun H=>by have e18:=H.g 18 12; have c1:=cell_of (off:=2) (H.b B2) rfl; have k_:=c5; clear H; go_simp <;> first | (simp_all; done) | omega | exact len_gt z0_) ?_ (hg:=gq 10 rfl)
    refine .e rfl (fun H=>x_pkF (H.g 16 10) (H.g 19 13)) ?_
    refine .mv rfl 14 ?_
    refine .fz rfl 1 2 E1_0 ?_ (hg:=gq 15 rfl)
    refine .fj rfl 16 3 ?_ (hg:=gq 15 rfl)
    refine .lc rfl 17 B2 ?_ (V:=.string (bS g.2.natAbs)) (hg:=gq 15 rfl)
    refine .e rfl (V:=.bool false) (fun H=>by have e24:=H.g 24 18; have k1:=H.c (.string (ByteArray.mk #[])); have s_:=bS_empty g.2.natAbs; have k_:=c7; clear H; go_simp <;> first | (simp_all; done) | omega | exact len_gt z0_) ?_ (hg:=gq 15 rfl)
    refine .e rfl (fun H=>x_pkF (H.g 21 15) (H.g 25 19)) ?_
    refine .mv rfl 20 ?_
    refine .fz rfl 1 0 E1_0 ?_ (hg:=gq 21 rfl)
    refine .fj rfl 22 1 ?_ (hg:=gq 21 rfl)
    refine .lc rfl 23 B2 ?_ (V:=.string (bS g.1.natAbs)) (hg:=gq 21 rfl)
    refine .e rfl (V:=.int .i64 (((bS g.1.natAbs).size:Nat):Int)) (fun H=>by have e30:=H.g 30 24; clear H; go_simp) ?_ (hg:=gq 21 rfl)
    refine .e rfl (V:=.bool false) (fun H=>x_cm (H.g 31 25) (H.c _) c9) ?_ (hg:=gq 21 rfl)
    refine .e rfl (fun H=>x_pkF (H.g 27 21) (H.g 32 26)) ?_
    refine .mv rfl 27 ?_
    refine .fz rfl 1 2 E1_0 ?_ (hg:=gq 28 rfl)
    refine .fj rfl 29 3 ?_ (hg:=gq 28 rfl)
    refine .lc rfl 30 B2 ?_ (V:=.string (bS g.2.natAbs)) (hg:=gq 28 rfl)
    refine .e rfl (V:=.int .i64 (((bS g.2.natAbs).size:Nat):Int)) (fun H=>by have e37:=H.g 37 31; clear H; go_simp) ?_ (hg:=gq 28 rfl)
    refine .e rfl (V:=.bool (decide (1024 < (((bS g.2.natAbs).size:Nat):Int)))) (fun H=>x_cmp (H.g 38 32) (H.c _)) ?_ (hg:=gq 28 rfl)
    refine .e rfl (fun H=>x_pkF (H.g 34 28) (H.g 39 33)) ?_
    refine .dk (fun u=>wwV g::u1 0::u1 1::U::U::U::sq u 0 35 (us 23)) K4 bel fun u2 w2 D bel=>?_
    have E2_34:=D.q 34
    replace B2:=D.k B2
    clear D
    rcases Bool.eq_false_or_eq_true (decide (1024 < (((bS g.2.natAbs).size:Nat):Int))) with c11 | c11
    ·
     refine wp_cond_true ((E2_34).trans (congrArg Value.bool c11)) ?_
     have dc11:=of_decide_eq_true c11
     refine gs 1 (Amb Z0 W) fun _ K12=>?_
     refine .mc rfl ?_
     refine .dk (fun u=>wwV g::u1 0::u 0::U::U::U::sq u2 0 35 (us 23)) K12 bel fun u3 w3 D bel=>?_
     have E3_0:=D.q 0
     clear D
     exact wp_ret (rt rfl E3_0 rfl bel)
    ·
     refine wp_cond_false ((E2_34).trans (congrArg Value.bool c11)) ?_
     have dc11:=of_decide_eq_false c11
     refine wp_skip ?_
     refine K3 _ _ ?_
     refine gd 8 (Amb Z0 W) fun _ K13=>?_
     refine .fz rfl 1 0 E1_0 ?_
     refine .lp rfl 0 (wC g.1) B2 ?_
     refine .cR rfl [] Tryz.func257 (fun H=>⟨_,ar1 (H.g 42 1),eWhole _ (by first | omega | (have g0:=ht_dvI (a:=g.1) (show 0 < g.2 by omega) (Nat.le_refl (max (hi g.1) (hi g.2))); omega))⟩) ?_
     refine .fz rfl 1 2 E1_0 ?_
     refine .lp rfl 3 (wC g.2) B2 ?_
     refine .cR rfl [] Tryz.func257 (fun H=>⟨_,ar1 (H.g 45 4),eWhole _ (by first | omega | (have g0:=ht_dvI (a:=g.1) (show 0 < g.2 by omega) (Nat.le_refl (max (hi g.1) (hi g.2))); omega))⟩) ?_
     refine .mn rfl 2 [2] ?_
     refine .mn rfl 5 [5] ?_
     refine .dk (fun u=>wwV g::u1 0::u1 1::u 6::u 7::U::sq u2 0 35 (sq u 0 6 (us 17))) K13 bel fun u4 w4 D bel=>?_
     obtain ⟨b14,E4_6,L14,F14⟩:=IntO.elim (D.rr 6)
     obtain ⟨b15,E4_7,L15,F15⟩:=IntO.elim (D.rr 7)
     clear D
     refine gs 5 (Amb Z0 W) fun _ K16=>?_
     refine .al rfl zQ ?_
     refine .mz rfl 3 E4_6 ?_
     refine .mz rfl 4 E4_7 ?_
     refine .cO rfl 0 Tryz.func234 (fun H h0 hz=>⟨_,ar3 (H.p 47 0 h0) (H.g 48 1) (H.g 49 2),qSetFrac _ _ (RatBlk.of hz) (IntO.p (VP.any _ (H.was _ [] (VP.at F14 L14)))) (IntO.p (VP.any _ (H.was _ [] (VP.at F15 L15)))) (by first | omega | (have g0:=ht_dvI (a:=g.1) (show 0 < g.2 by omega) (Nat.le_refl (max (hi g.1) (hi g.2))); omega)) (by first | omega | (have g0:=ht_dvI (a:=g.1) (show 0 < g.2 by omega) (Nat.le_refl (max (hi g.1) (hi g.2))); omega))⟩) ?_
     refine .mo rfl 3 ?_
     refine .dk (fun u=>wwV g::u1 0::u1 1::u4 6::u4 7::u 4::sq u2 0 35 (sq u4 0 6 (sq u 0 4 (us 13)))) K16 bel fun u5 w5 D bel=>?_
     obtain ⟨b17,E5_4,A17,F17⟩:=D.ow 4
     replace F14:=D.o L14 F14
     replace F15:=D.o L15 F15
     have L17:Amb Z0 W b17:=.inr A17
     clear D
     refine wp_seq_k fun _ K18=>?_
     rcases Bool.eq_false_or_eq_true ((icmp ((Rat.divInt g.1 g.2).num) g.1) != 0) with c20 | c20
     ·
      refine gs 12 (Amb Z0 W) fun _ K19=>?_
      refine .mz rfl 5 E5_4 ?_
      refine .cR rfl [] Tryz.func258 (fun H=>⟨_,ar1 (H.g 51 0),qNum _ (H.was _ [] (VP.at F17 L17)) (by first | omega | (have g0:=ht_dvI (a:=g.1) (show 0 < g.2 by omega) (Nat.le_refl (max (hi g.1) (hi g.2))); omega))⟩) ?_
      refine .mz rfl 3 E4_6 ?_
      refine .cK rfl Tryz.func251 (fun H=>⟨_,ar2 (H.r 52 1) (H.g 53 2),bCmp _ _ (IntO.p (SV.any (H.a 1 rfl))) (IntO.p (VP.any _ (H.was _ [] (VP.at F14 L14)))) (by first | omega | (have g0:=ht_dvI (a:=g.1) (show 0 < g.2 by omega) (Nat.le_refl (max (hi g.1) (hi g.2))); omega))⟩) ?_
      refine .e rfl (V:=.bool true) (fun H=>x_cm (H.g 54 3) (H.c _) c20) ?_
      refine .mv rfl 4 ?_
      refine .sk rfl 5 ?_
      refine .sk rfl 5 ?_
      refine .sk rfl 5 ?_
      refine .sk rfl 5 ?_
      refine .sk rfl 5 ?_
      refine .e rfl (fun H=>x_pkT (H.g 56 5) (H.c _)) ?_
      refine .dk (fun u=>wwV g::u1 0::u1 1::u4 6::u4 7::u5 4::sq u2 0 35 (sq u4 0 6 (sq u5 0 4 (sq u 0 12 (U::[]))))) K19 bel fun u6 w6 D bel=>?_
      have E6_11:=D.q 11
      replace F17:=D.o L17 F17
      clear D
      refine wp_cond_true (by exact E6_11) ?_
      refine gs 1 (Amb Z0 W) fun _ K21=>?_
      refine .mc rfl ?_
      refine .dk (fun u=>wwV g::u1 0::u 0::u4 6::u4 7::u5 4::sq u2 0 35 (sq u4 0 6 (sq u5 0 4 (sq u6 0 12 (U::[]))))) K21 bel fun u7 w7 D bel=>?_
      have E7_0:=D.q 0
      clear D
      exact wp_ret (rt rfl E7_0 rfl bel)
     ·
      refine gs 12 (Amb Z0 W) fun _ K19=>?_
      refine .mz rfl 5 E5_4 ?_
      refine .cR rfl [] Tryz.func258 (fun H=>⟨_,ar1 (H.g 51 0),qNum _ (H.was _ [] (VP.at F17 L17)) (by first | omega | (have g0:=ht_dvI (a:=g.1) (show 0 < g.2 by omega) (Nat.le_refl (max (hi g.1) (hi g.2))); omega))⟩) ?_
      refine .mz rfl 3 E4_6 ?_
      refine .cK rfl Tryz.func251 (fun H=>⟨_,ar2 (H.r 52 1) (H.g 53 2),bCmp _ _ (IntO.p (SV.any (H.a 1 rfl))) (IntO.p (VP.any _ (H.was _ [] (VP.at F14 L14)))) (by first | omega | (have g0:=ht_dvI (a:=g.1) (show 0 < g.2 by omega) (Nat.le_refl (max (hi g.1) (hi g.2))); omega))⟩) ?_
      refine .e rfl (V:=.bool false) (fun H=>x_cm (H.g 54 3) (H.c _) c20) ?_
      refine .mv rfl 4 ?_
      refine .mz rfl 5 E5_4 ?_ (hg:=gq 5 rfl)
      refine .cR rfl [] Tryz.func259 (fun H=>⟨_,ar1 (H.g 57 6),qDenom _ (H.was _ [] (VP.at F17 L17)) (by first | omega | (have g0:=ht_dvI (a:=g.1) (show 0 < g.2 by omega) (Nat.le_refl (max (hi g.1) (hi g.2))); omega))⟩) ?_ (hg:=gq 5 rfl)
      refine .mz rfl 4 E4_7 ?_ (hg:=gq 5 rfl)
      refine .cK rfl Tryz.func251 (fun H=>⟨_,ar2 (H.r 58 7) (H.g 59 8),bCmp _ _ (IntO.p (SV.any (H.a 7 rfl))) (IntO.p (VP.any _ (H.was _ [] (VP.at F15 L15)))) (by first | omega | (have g0:=ht_dvI (a:=g.1) (show 0 < g.2 by omega) (Nat.le_refl (max (hi g.1) (hi g.2))); omega))⟩) ?_ (hg:=gq 5 rfl)
      refine .e rfl (V:=.bool ((icmp ((Rat.divInt g.1 g.2).den:Int) g.2) != 0)) (fun H=>x_cmp (H.g 60 9) (H.c _)) ?_ (hg:=gq 5 rfl)
      refine .e rfl (fun H=>x_pkF (H.g 56 5) (H.g 61 10)) ?_
      refine .dk (fun u=>wwV g::u1 0::u1 1::u4 6::u4 7::u5 4::sq u2 0 35 (sq u4 0 6 (sq u5 0 4 (sq u 0 12 (U::[]))))) K19 bel fun u6 w6 D bel=>?_
      have E6_11:=D.q 11
      replace F17:=D.o L17 F17
      clear D
      rcases Bool.eq_false_or_eq_true ((icmp ((Rat.divInt g.1 g.2).den:Int) g.2) != 0) with c22 | c22
      ·
       refine wp_cond_true ((E6_11).trans (congrArg Value.bool c22)) ?_
       refine gs 1 (Amb Z0 W) fun _ K23=>?_
       refine .mc rfl ?_
       refine .dk (fun u=>wwV g::u1 0::u 0::u4 6::u4 7::u5 4::sq u2 0 35 (sq u4 0 6 (sq u5 0 4 (sq u6 0 12 (U::[]))))) K23 bel fun u7 w7 D bel=>?_
       have E7_0:=D.q 0
       clear D
       exact wp_ret (rt rfl E7_0 rfl bel)
      ·
       refine wp_cond_false ((E6_11).trans (congrArg Value.bool c22)) ?_
       refine wp_skip ?_
       refine K18 _ _ ?_
       refine gs 2 (Amb Z0 W) fun _ K24=>?_
       refine .mz rfl 5 E5_4 ?_
       refine .mv rfl 0 ?_
       refine .dk (fun u=>wwV g::u1 0::u 1::u4 6::u4 7::u5 4::sq u2 0 35 (sq u4 0 6 (sq u5 0 4 (sq u6 0 12 (u 0::[]))))) K24 bel fun u8 w8 D bel=>?_
       have E8_1:=D.q 1
       replace F17:=D.o L17 F17
       clear D
       exact wp_ret (rt rfl E8_1 (Bool.noConfusion ((ratw_yes dc5 dc7 dc9 dc11 c20 c22).symm.trans p0)) bel)
end Go.Proofs.YtcpjdjnaipbieaaGreat
namespace Go.Proofs.YtcpjdjnaipbieaaGreat
open Go.RowKit Rgn
theorem eRatF {W:World} (r:RF) (p0:fmay r = false):Calls Tryz.prog 198 #[rfV r] W (RetV (.pointer none) W):=by
 cases h0:wformed r.a with
 | false=>exact eRatF0 r h0
 | true =>
  cases h1:wformed r.b with
  | false=>exact eRatF1 r h0 h1
  | true =>
   obtain ⟨a,b⟩:=r
   obtain ⟨x,rfl⟩:=wformed_ex h0
   obtain ⟨y,rfl⟩:=wformed_ex h1
   exact eRatW (x,y) p0
theorem eRatT {S:Nat → Prop} {W:World} (r:RF) (p0:fmay r = true):Calls Tryz.prog 198 #[rfV r] W (Ret (RatP (valM r)) S W):=by
 obtain ⟨q,rfl⟩:=fmay_ex p0
 rw [valM_rf p0]
 exact eRatOk q (and_tt p0).1
theorem retOf {P:Program} {f:FuncId} {args:Array Value} {W:World} {v:Value} {φ:VP} {S:Nat → Prop} (h:Calls P f args W (RetV v W)) (hp:∀ w,φ.p (fun k=>S k ∨ W.heap.size ≤ k) v w):Calls P f args W (Ret φ S W) :=
 h.mono fun _ w' h=>by
  obtain ⟨h1,h2⟩:=h.is
  exact ⟨v,h1,hp w', h2⟩
theorem eRatA {S:Nat → Prop} {W:World} (r:RF):Calls Tryz.prog 198 #[rfV r] W (Ret (PtrP 0) S W):=by
 cases h:fmay r with
 | false=>exact retOf (eRatF r h) fun _=>⟨_,rfl⟩
 | true =>
  have g:=eRatT (S:=S) (W:=W) r h
  exact g.mono fun _ _ ⟨v,h1,h2,h3⟩=>⟨v,h1,RatN.ptr (RatP.n h2),h3⟩
end Go.Proofs.YtcpjdjnaipbieaaGreat
namespace Go.Proofs.YtcpjdjnaipbieaaGreat
open Go.RowKit Rgn
set_option maxHeartbeats 4000000
set_option maxRecDepth 100000
variable {S:Nat → Prop} {W:World}
theorem eOfR (r:RG) :
  Calls Tryz.prog 197 #[rgV r] W (Ret (VP.tup (NumP (gvm r)) (VP.is (.bool (gmay r)))) S W):=by
 have bel:=b0 W
 go_enter Tryz.func197,Tryz.ntmps197
 rcases Bool.eq_false_or_eq_true (fmay r.re) with c1 | c1
 ·
  rcases Bool.eq_false_or_eq_true (fmay r.im) with c2 | c2
  ·
   refine gs 3 (Amb S W) fun _ K3=>?_
   refine .bx rfl (fun H=>H.v 0 (rgV r)) ?_
   refine .al rfl (#[.pointer none,.pointer none]) ?_
   refine .mc rfl ?_
   refine .dk (fun u=>rgV r::sq u 0 3 (us 17)) K3 bel fun u1 w1 D bel=>?_
   obtain ⟨b4,E1_0,A4,B4⟩:=D.nw 0
   obtain ⟨b5,E1_1,A5,B5⟩:=D.nw 1
   have E1_2:=D.q 2
   have N4_5:=D.n2 0 1 E1_0 E1_1
   clear D
   refine gd 8 (Amb S W) fun _ K6=>?_
   refine .fz rfl 1 0 E1_0 ?_
   refine .lp rfl 0 (rfC r.re) B4 ?_
   refine .cR rfl [] Tryz.func198 (fun H=>⟨_,ar1 (H.g 7 1),eRatT _ (by first | assumption | omega)⟩) ?_
   refine .fz rfl 1 4 E1_0 ?_
   refine .lp rfl 3 (rfC r.im) B4 ?_
   refine .cR rfl [] Tryz.func198 (fun H=>⟨_,ar1 (H.g 10 4),eRatT _ (by first | assumption | omega)⟩) ?_
   refine .mn rfl 2 [2] ?_
   refine .mn rfl 5 [5] ?_
   refine .dk (fun u=>rgV r::sq u1 0 3 (u 6::u 7::sq u 0 6 (us 9))) K6 bel fun u2 w2 D bel=>?_
   obtain ⟨b7,E2_6,L7,F7⟩:=RatP.elim (D.rr 6)
   obtain ⟨b8,E2_7,L8,F8⟩:=RatP.elim (D.rr 7)
   replace B5:=D.k B5
   clear D
   refine gs1 11 (Amb S W) 9 B5 fun _ K9=>?_
   refine .mz rfl 4 E2_6 ?_
   refine .mz rfl 5 E2_7 ?_
   refine .e rfl (V:=.agg #[pt b7,pt b8]) (fun H=>by have e12:=H.g 12 0; have e13:=H.g 13 1; clear H; go_simp) ?_
   refine .mz rfl 4 E2_6 ?_
   refine .e rfl (V:=.bool true) (fun H=>x_pnN (H.g 15 3) (H.c _)) ?_
   refine .mv rfl 4 ?_
   refine .mz rfl 5 E2_7 ?_ (hg:=gq 5 rfl)
   refine .e rfl (V:=.bool true) (fun H=>x_pnN (H.g 18 6) (H.c _)) ?_ (hg:=gq 5 rfl)
   refine .e rfl (fun H=>x_pkT (H.g 17 5) (H.g 19 7)) ?_
   refine .s1 rfl B5 (fun H=>⟨H.z 2 E1_1,H.g 14 2⟩) ?_
   refine .mv rfl 8 ?_
   refine .d1 (fun u=>rgV r::u1 0::u1 1::u 10::u2 6::u2 7::sq u2 0 6 (sq u 0 9 [])) K9 bel A5 fun u3 w3 D bel=>?_
   have E3_10:=D.q 10
   replace B5:=D.ol 9
   replace F7:=D.o L7 F7
   replace F8:=D.o L8 F8
   clear D
   refine wp_ret ?_
   refine ret_ok rfl (by exact results_mix rfl (by exact E1_1) B5 Tryz.underlying178 rfl (by kernel_rfl) (by exact E3_10)) ⟨_,rfl,?_,bel⟩
   exact ⟨_,_,rfl,(NumP.mk (RatP.n (VP.at F7 L7)) (RatP.n (VP.at F8 L8))),(by unfold gmay; rw [c1,c2]; rfl)⟩
  ·
   refine gs 3 (Amb S W) fun _ K10=>?_
   refine .bx rfl (fun H=>H.v 0 (rgV r)) ?_
   refine .al rfl (#[.pointer none,.pointer none]) ?_
   refine .mc rfl ?_
   refine .dk (fun u=>rgV r::sq u 0 3 (us 17)) K10 bel fun u1 w1 D bel=>?_
   obtain ⟨b11,E1_0,A11,B11⟩:=D.nw 0
   obtain ⟨b12,E1_1,A12,B12⟩:=D.nw 1
   have E1_2:=D.q 2
   have N11_12:=D.n2 0 1 E1_0 E1_1
   clear D
   refine gd 8 (Amb S W) fun _ K13=>?_
   refine .fz rfl 1 0 E1_0 ?_
   refine .lp rfl 0 (rfC r.re) B11 ?_
   refine .cR rfl [] Tryz.func198 (fun H=>⟨_,ar1 (H.g 7 1),eRatT _ (by first | assumption | omega)⟩) ?_
   refine .fz rfl 1 4 E1_0 ?_
   refine .lp rfl 3 (rfC r.im) B11 ?_
   refine .cK rfl Tryz.func198 (fun H=>⟨_,ar1 (H.g 10 4),eRatF _ (by first | assumption | omega)⟩) ?_
   refine .mn rfl 2 [2] ?_
   refine .mv rfl 5 ?_
   refine .dk (fun u=>rgV r::sq u1 0 3 (u 6::u 7::sq u 0 6 (us 9))) K13 bel fun u2 w2 D bel=>?_
   obtain ⟨b14,E2_6,L14,F14⟩:=RatP.elim (D.rr 6)
   have E2_7:=D.q 7
   replace B12:=D.k B12
   clear D
   refine gs1 11 (Amb S W) 9 B12 fun _ K15=>?_
   refine .mz rfl 4 E2_6 ?_
   refine .mz rfl 5 E2_7 ?_
   refine .e rfl (V:=.agg #[pt b14,.pointer none]) (fun H=>by have e12:=H.g 12 0; have e13:=H.g 13 1; clear H; go_simp) ?_
   refine .mz rfl 4 E2_6 ?_
   refine .e rfl (V:=.bool true) (fun H=>x_pnN (H.g 15 3) (H.c _)) ?_
   refine .mv rfl 4 ?_
   refine .mz rfl 5 E2_7 ?_ (hg:=gq 5 rfl)
   refine .e rfl (V:=.bool false) (fun H=>x_nnN (H.g 18 6) (H.c _)) ?_ (hg:=gq 5 rfl)
   refine .e rfl (fun H=>x_pkT (H.g 17 5) (H.g 19 7)) ?_
   refine .s1 rfl B12 (fun H=>⟨H.z 2 E1_1,H.g 14 2⟩) ?_
   refine .mv rfl 8 ?_
   refine .d1 (fun u=>rgV r::u1 0::u1 1::u 10::u2 6::u2 7::sq u2 0 6 (sq u 0 9 [])) K15 bel A12 fun u3 w3 D bel=>?_
   have E3_10:=D.q 10
   replace B12:=D.ol 9
   replace F14:=D.o L14 F14
   clear D
   refine wp_ret ?_
   refine ret_ok rfl (by exact results_mix rfl (by exact E1_1) B12 Tryz.underlying178 rfl (by kernel_rfl) (by exact E3_10)) ⟨_,rfl,?_,bel⟩
   exact ⟨_,_,rfl,(NumP.mk (RatP.n (VP.at F14 L14)) (.inl ⟨rfl,by first | exact valM_no c1 | exact valM_no c2⟩)),(by unfold gmay; rw [c1,c2]; rfl)⟩
 ·
  rcases Bool.eq_false_or_eq_true (fmay r.im) with c16 | c16
  ·
   refine gs 3 (Amb S W) fun _ K17=>?_
   refine .bx rfl (fun H=>H.v 0 (rgV r)) ?_
   refine .al rfl (#[.pointer none,.pointer none]) ?_
   refine .mc rfl ?_
   refine .dk (fun u=>rgV r::sq u 0 3 (us 17)) K17 bel fun u1 w1 D bel=>?_
   obtain ⟨b18,E1_0,A18,B18⟩:=D.nw 0
   obtain ⟨b19,E1_1,A19,B19⟩:=D.nw 1
   have E1_2:=D.q 2
   have N18_19:=D.n2 0 1 E1_0 E1_1
   clear D
   refine gd 8 (Amb S W) fun _ K20=>?_
   refine .fz rfl 1 0 E1_0 ?_
   refine .lp rfl 0 (rfC r.re) B18 ?_
   refine .cK rfl Tryz.func198 (fun H=>⟨_,ar1 (H.g 7 1),eRatF _ (by first | assumption | omega)⟩) ?_
   refine .fz rfl 1 4 E1_0 ?_
   refine .lp rfl 3 (rfC r.im) B18 ?_
   refine .cR rfl [] Tryz.func198 (fun H=>⟨_,ar1 (H.g 10 4),eRatT _ (by first | assumption | omega)⟩) ?_
   refine .mv rfl 2 ?_
   refine .mn rfl 5 [5] ?_
   refine .dk (fun u=>rgV r::sq u1 0 3 (u 6::u 7::sq u 0 6 (us 9))) K20 bel fun u2 w2 D bel=>?_
   obtain ⟨b21,E2_7,L21,F21⟩:=RatP.elim (D.rr 7)
   have E2_6:=D.q 6
   replace B19:=D.k B19
   clear D
   refine gs1 11 (Amb S W) 9 B19 fun _ K22=>?_
   refine .mz rfl 4 E2_6 ?_
   refine .mz rfl 5 E2_7 ?_
   refine .e rfl (V:=.agg #[.pointer none,pt b21]) (fun H=>by have e12:=H.g 12 0; have e13:=H.g 13 1; clear H; go_simp) ?_
   refine .mz rfl 4 E2_6 ?_
   refine .e rfl (V:=.bool false) (fun H=>x_nnN (H.g 15 3) (H.c _)) ?_
   refine .mv rfl 4 ?_
   refine .sk rfl 5 ?_
   refine .sk rfl 5 ?_
   refine .e rfl (fun H=>x_pkF (H.g 17 5) (H.c _)) ?_
   refine .s1 rfl B19 (fun H=>⟨H.z 2 E1_1,H.g 14 2⟩) ?_
   refine .mv rfl 8 ?_
   refine .d1 (fun u=>rgV r::u1 0::u1 1::u 10::u2 6::u2 7::sq u2 0 6 (sq u 0 9 [])) K22 bel A19 fun u3 w3 D bel=>?_
   have E3_10:=D.q 10
   replace B19:=D.ol 9
   replace F21:=D.o L21 F21
   clear D
   refine wp_ret ?_
   refine ret_ok rfl (by exact results_mix rfl (by exact E1_1) B19 Tryz.underlying178 rfl (by kernel_rfl) (by exact E3_10)) ⟨_,rfl,?_,bel⟩
   exact ⟨_,_,rfl,(NumP.mk (.inl ⟨rfl,by first | exact valM_no c1 | exact valM_no c16⟩) (RatP.n (VP.at F21 L21))),(by unfold gmay; rw [c1,c16]; rfl)⟩
  ·
   refine gs 3 (Amb S W) fun _ K23=>?_
   refine .bx rfl (fun H=>H.v 0 (rgV r)) ?_
   refine .al rfl (#[.pointer none,.pointer none]) ?_
   refine .mc rfl ?_
   refine .dk (fun u=>rgV r::sq u 0 3 (us 17)) K23 bel fun u1 w1 D bel=>?_
   obtain ⟨b24,E1_0,A24,B24⟩:=D.nw 0
   obtain ⟨b25,E1_1,A25,B25⟩:=D.nw 1
   have E1_2:=D.q 2
   have N24_25:=D.n2 0 1 E1_0 E1_1
   clear D
   refine gd 8 (Amb S W) fun _ K26=>?_
   refine .fz rfl 1 0 E1_0 ?_
   refine .lp rfl 0 (rfC r.re) B24 ?_
   refine .cK rfl Tryz.func198 (fun H=>⟨_,ar1 (H.g 7 1),eRatF _ (by first | assumption | omega)⟩) ?_
   refine .fz rfl 1 4 E1_0 ?_
   refine .lp rfl 3 (rfC r.im) B24 ?_
   refine .cK rfl Tryz.func198 (fun H=>⟨_,ar1 (H.g 10 4),eRatF _ (by first | assumption | omega)⟩) ?_
   refine .mv rfl 2 ?_
   refine .mv rfl 5 ?_
   refine .dk (fun u=>rgV r::sq u1 0 3 (u 6::u 7::sq u 0 6 (us 9))) K26 bel fun u2 w2 D bel=>?_
   have E2_6:=D.q 6
   have E2_7:=D.q 7
   replace B25:=D.k B25
   clear D
   refine gs1 11 (Amb S W) 9 B25 fun _ K27=>?_
   refine .mz rfl 4 E2_6 ?_
   refine .mz rfl 5 E2_7 ?_
   refine .e rfl (V:=.agg #[.pointer none,.pointer none]) (fun H=>by have e12:=H.g 12 0; have e13:=H.g 13 1; clear H; go_simp) ?_
   refine .mz rfl 4 E2_6 ?_
   refine .e rfl (V:=.bool false) (fun H=>x_nnN (H.g 15 3) (H.c _)) ?_
   refine .mv rfl 4 ?_
   refine .sk rfl 5 ?_
   refine .sk rfl 5 ?_
   refine .e rfl (fun H=>x_pkF (H.g 17 5) (H.c _)) ?_
   refine .s1 rfl B25 (fun H=>⟨H.z 2 E1_1,H.g 14 2⟩) ?_
   refine .mv rfl 8 ?_
   refine .d1 (fun u=>rgV r::u1 0::u1 1::u 10::u2 6::u2 7::sq u2 0 6 (sq u 0 9 [])) K27 bel A25 fun u3 w3 D bel=>?_
   have E3_10:=D.q 10
   replace B25:=D.ol 9
   clear D
   refine wp_ret ?_
   refine ret_ok rfl (by exact results_mix rfl (by exact E1_1) B25 Tryz.underlying178 rfl (by kernel_rfl) (by exact E3_10)) ⟨_,rfl,?_,bel⟩
   exact ⟨_,_,rfl,(NumP.mk (.inl ⟨rfl,by first | exact valM_no c1 | exact valM_no c16⟩) (.inl ⟨rfl,by first | exact valM_no c1 | exact valM_no c16⟩)),(by unfold gmay; rw [c1,c16]; rfl)⟩
theorem eWheelA (r:RCi) (p0:gmay r.b = false) :
  Calls Tryz.prog 155 #[rciV r] W (RetV (.tuple #[.agg #[.pointer none,.pointer none,.pointer none,.pointer none],.bool false]) W):=by
 have bel:=b0 W
 go_enter Tryz.func155,Tryz.ntmps155
 refine gs 3 (Amb Z0 W) fun _ K1=>?_
 refine .bx rfl (fun H=>H.v 0 (rciV r)) ?_
 refine .al rfl (#[.pointer none,.pointer none,.pointer none,.pointer none]) ?_
 refine .mc rfl ?_
 refine .dk (fun u=>rciV r::sq u 0 3 (us 41)) K1 bel fun u1 w1 D bel=>?_
 obtain ⟨b2,E1_0,A2,B2⟩:=D.nw 0
 obtain ⟨b3,E1_1,A3,B3⟩:=D.nw 1
 have E1_2:=D.q 2
 have N2_3:=D.n2 0 1 E1_0 E1_1
 clear D
 refine gs 9 (Amb Z0 W) fun _ K4=>?_
 refine .fz rfl 1 4 E1_0 ?_
 refine .lp rfl 0 (rgC r.b) B2 ?_
 refine .cR rfl [] Tryz.func197 (fun H=>⟨_,ar1 (H.g 9 1),eOfR _⟩) ?_
 refine .mn rfl 2 [2] ?_
 refine Go2.fn (i:=4) rfl (G0 rfl) (.val 4 [2,3] (NumP (gvm r.b))) (fun u μ ρ H=>by have e7:=H.r 7 3; have h0:=(H.a 3 rfl); obtain ⟨x0,x1,h1,h2⟩:=h0; rw [h1] at e7; exact ⟨x0,by clear H; go_simp,SP.tupKeep (by decide) (by decide) h2.1⟩) ?_
 refine .e rfl (V:=.bool (gmay r.b)) (fun H=>by have e7:=H.r 7 3; have h0:=(H.a 3 rfl); obtain ⟨x0,x1,h1,h2,h3⟩:=h0; rw [h1] at e7; have h3:x1 = .bool (gmay r.b):=h3; subst h3; clear H; go_simp) ?_
 refine .al rfl (#[.pointer none,.pointer none]) ?_
 refine Go2.storeOwn (i:=7) (m:=6) rfl rfl (.head _) (SP.cells 6 [4] (fun u=>#[((u 4).v.cells.getD 0 undef),((u 4).v.cells.getD 1 undef)]) 178 (by intro u u' h; simp [h 4 (by simp)])) (fun u μ ρ b H h0 hB hb=>?_) ?_
 · have e4:=H.r 4 6; have e11:=H.r 11 4
   rw [h0] at e4
   obtain ⟨x1,x2,h1,h2,h3⟩:=(H.a 4 rfl)
   have o1:=VP1.ratn h2
   have o2:=VP1.ratn h3
   rw [h1] at e11
   refine ⟨μ.setRow b #[x1,x2],ex_store_row 178 _ _ rfl e4 e11 hb (by kernel_rfl) rfl (by simp [o1,o2]),fun g=>⟨b,?_,hB,?_⟩,setRow_only _ _ _⟩
   · rw [upd_other _ _ (by decide)]; exact h0
   · rw [setRow_at hb]; try simp [upd,h1,Value.cells]
 refine .e rfl (V:=.bool false) (fun H=>by have e12:=H.g 12 5; have k_:=p0; clear H; go_simp <;> first | (simp_all; done) | omega | exact len_gt z0_) ?_
 refine .dk (fun u=>rciV r::sq u1 0 3 (u 6::u 8::U::u 3::sq u 0 3 (u 4::u 5::us 32))) K4 bel fun u2 w2 D bel=>?_
 obtain ⟨x5,x6,E2_4,F_x5,F_x6⟩:=(D.rr 4)
 obtain ⟨b7,E2_6,A7,B7⟩:=(D.a 7 rfl)
 replace A7:=le2 D.le A7
 have E2_8:=D.q 8
 have N3_7:=D.n1 6 (lt_of B3) E2_6
 replace B2:=D.k B2
 replace B3:=D.k B3
 simp only [Value.cells,E2_4,E2_6] at B7
 replace B7:w2.heap[b7]? = some (.cells #[x5,x6] 178 (0,0)):=B7
 clear D
 refine gd 10 (Amb Z0 W) fun _ K8=>?_
 refine .fz rfl 1 0 E1_0 ?_
 refine .lp rfl 0 (rfC r.a) B2 ?_
 refine .cR rfl [] Tryz.func198 (fun H=>⟨_,ar1 (H.g 14 1),eRatA _⟩) ?_
 refine .lr rfl 4 E2_6 B7 ?_
 refine .fz rfl 1 12 E1_0 ?_
 refine .lp rfl 4 (rfC r.c) B2 ?_
 refine .cR rfl [] Tryz.func198 (fun H=>⟨_,ar1 (H.g 18 5),eRatA _⟩) ?_
 refine Go2.fn (i:=7) rfl (G0 rfl) (SP.fnL 7 [2,6] (fun u=>.agg #[(u 2).v,x5,x6,(u 6).v]) (by intro u u' h; simp [h 2 (by simp),h 6 (by simp)])) (fun u μ ρ H=>⟨_,by have e15:=H.r 15 2; have e16:=H.g 16 3; have e19:=H.r 19 6; obtain ⟨x2,h2⟩:=PtrP.isPtr (H.a 2 rfl); obtain ⟨x6,h6⟩:=PtrP.isPtr (H.a 6 rfl); clear H; go_simp,SP.fnL_upd (by decide)⟩) ?_
 refine .al rfl (#[.pointer none,.pointer none,.pointer none,.pointer none]) ?_
 refine Go2.storeOwn (i:=9) (m:=8) rfl rfl (.head _) (SP.cells 8 [2,6] (fun u=>#[(u 2).v,x5,x6,(u 6).v]) 203 (by intro u u' h; simp [h 2 (by simp),h 6 (by simp)])) (fun u μ ρ b H h0 hB hb=>?_) ?_
 · have e6:=H.r 6 8; have e20:=H.e 20 7 (by kernel_rfl) (H.a 7 rfl); have o2:=VP1.ptr (H.a 2 rfl); have o_x5:=VP1.ratn F_x5; have o_x6:=VP1.ratn F_x6; have o6:=VP1.ptr (H.a 6 rfl)
   rw [h0] at e6
   refine ⟨μ.setRow b #[(u 2).v,x5,x6,(u 6).v],ex_store_row 203 _ _ rfl e6 e20 hb (by kernel_rfl) rfl (by simp [o2,o_x5,o_x6,o6] <;> rfl),fun g=>⟨b,?_,hB,?_⟩,setRow_only _ _ _⟩
   · rw [upd_other _ _ (by decide)]; exact h0
   · rw [setRow_at hb]; try simp [upd]
 refine .dk (fun u=>rciV r::sq u1 0 3 (u2 6::u2 8::u 8::u2 3::sq u2 0 3 (u2 4::u2 5::sq u 0 8 (us 24)))) K8 bel fun u3 w3 D bel=>?_
 obtain ⟨x9,E3_2,F_x9⟩:∃ x_,(u3 2).v = x_ ∧ (PtrP 0).p (Amb Z0 W) x_ w3:=⟨_,rfl,D.rr 2⟩
 obtain ⟨x10,E3_6,F_x10⟩:∃ x_,(u3 6).v = x_ ∧ (PtrP 0).p (Amb Z0 W) x_ w3:=⟨_,rfl,D.rr 6⟩
 obtain ⟨b11,E3_8,A11,B11⟩:=(D.a 9 rfl)
 replace A11:=le2 D.le A11
 have N3_11:=D.n1 8 (lt_of B3) E3_8
 replace B3:=D.k B3
 simp only [Value.cells,E3_2,E3_6,E3_8] at B11
 replace F_x5:=D.gr (RatN ((gvm r.b).re)) F_x5
 replace F_x6:=D.gr (RatN ((gvm r.b).im)) F_x6
 clear D
 refine wp_seq_k fun _ K12=>?_
 refine gs 18 (Amb Z0 W) fun _ K13=>?_
 refine .mz rfl 5 E2_8 ?_
 refine .e rfl (V:=.bool true) (fun H=>x_not (H.g 21 0)) ?_
 refine .mv rfl 1 ?_
 refine .sk rfl 2 ?_
 refine .sk rfl 2 ?_
 refine .sk rfl 2 ?_
 refine .e rfl (fun H=>x_pkT (H.g 23 2) (H.c _)) ?_
 refine .mv rfl 6 ?_
 refine .sk rfl 7 ?_
 refine .sk rfl 7 ?_
 refine .sk rfl 7 ?_
 refine .e rfl (fun H=>x_pkT (H.g 28 7) (H.c _)) ?_
 refine .mv rfl 11 ?_
 refine .sk rfl 12 ?_
 refine .sk rfl 12 ?_
 refine .sk rfl 12 ?_
 refine .sk rfl 12 ?_
 refine .e rfl (fun H=>x_pkT (H.g 33 12) (H.c _)) ?_
 refine .dk (fun u=>rciV r::sq u1 0 3 (u2 6::u2 8::u3 8::u2 3::sq u2 0 3 (u2 4::u2 5::sq u3 0 8 (sq u 0 18 (us 6))))) K13 bel fun u4 w4 D bel=>?_
 have E4_17:=D.q 17
 replace B3:=D.k B3
 replace B11:=D.k B11
 replace F_x5:=D.gr (RatN ((gvm r.b).re)) F_x5
 replace F_x6:=D.gr (RatN ((gvm r.b).im)) F_x6
 replace F_x9:=D.gr (PtrP 0) F_x9
 replace F_x10:=D.gr (PtrP 0) F_x10
 clear D
 refine wp_cond_true (by exact E4_17) ?_
 refine gs1 3 (Amb Z0 W) 1 B3 fun _ K14=>?_
 refine .e rfl (V:=.agg #[.pointer none,.pointer none,.pointer none,.pointer none]) (fun H=>by clear H; go_simp) ?_
 refine .s1 rfl B3 (fun H=>⟨H.z 2 E1_1,H.g 39 0⟩) ?_
 refine .mc rfl ?_
 refine .d1 (fun u=>rciV r::u1 0::u1 1::u 2::u2 6::u2 8::u3 8::u2 3::sq u2 0 3 (u2 4::u2 5::sq u3 0 8 (sq u4 0 18 (u 0::us 5)))) K14 bel A3 fun u5 w5 D bel=>?_
 have E5_2:=D.q 2
 replace B3:=D.ol 1
 clear D
 refine wp_ret ?_
 refine ret_ok rfl (by exact results_mix rfl (by exact E1_1) B3 Tryz.underlying203 rfl (by kernel_rfl) (by exact E5_2)) (RetV.mk ?_ bel)
 exact congrArg Ending.returned (rfl)
theorem eWheelB (r:RCi) (p0:gmay r.b = true) (p1:fmay r.a = false) :
  Calls Tryz.prog 155 #[rciV r] W (RetV (.tuple #[.agg #[.pointer none,.pointer none,.pointer none,.pointer none],.bool false]) W):=by
 have bel:=b0 W
 go_enter Tryz.func155,Tryz.ntmps155
 refine gs 3 (Amb Z0 W) fun _ K1=>?_
 refine .bx rfl (fun H=>H.v 0 (rciV r)) ?_
 refine .al rfl (#[.pointer none,.pointer none,.pointer none,.pointer none]) ?_
 refine .mc rfl ?_
 refine .dk (fun u=>rciV r::sq u 0 3 (us 41)) K1 bel fun u1 w1 D bel=>?_
 obtain ⟨b2,E1_0,A2,B2⟩:=D.nw 0
 obtain ⟨b3,E1_1,A3,B3⟩:=D.nw 1
 have E1_2:=D.q 2
 have N2_3:=D.n2 0 1 E1_0 E1_1
 clear D
 refine gs 9 (Amb Z0 W) fun _ K4=>?_
 refine .fz rfl 1 4 E1_0 ?_
 refine .lp rfl 0 (rgC r.b) B2 ?_
 refine .cR rfl [] Tryz.func197 (fun H=>⟨_,ar1 (H.g 9 1),eOfR _⟩) ?_
 refine .mn rfl 2 [2] ?_
 refine Go2.fn (i:=4) rfl (G0 rfl) (.val 4 [2,3] (NumP (gvm r.b))) (fun u μ ρ H=>by have e7:=H.r 7 3; have h0:=(H.a 3 rfl); obtain ⟨x0,x1,h1,h2⟩:=h0; rw [h1] at e7; exact ⟨x0,by clear H; go_simp,SP.tupKeep (by decide) (by decide) h2.1⟩) ?_
 refine .e rfl (V:=.bool (gmay r.b)) (fun H=>by have e7:=H.r 7 3; have h0:=(H.a 3 rfl); obtain ⟨x0,x1,h1,h2,h3⟩:=h0; rw [h1] at e7; have h3:x1 = .bool (gmay r.b):=h3; subst h3; clear H; go_simp) ?_
 refine .al rfl (#[.pointer none,.pointer none]) ?_
 refine Go2.storeOwn (i:=7) (m:=6) rfl rfl (.head _) (SP.cells 6 [4] (fun u=>#[((u 4).v.cells.getD 0 undef),((u 4).v.cells.getD 1 undef)]) 178 (by intro u u' h; simp [h 4 (by simp)])) (fun u μ ρ b H h0 hB hb=>?_) ?_
 · have e4:=H.r 4 6; have e11:=H.r 11 4
   rw [h0] at e4
   obtain ⟨x1,x2,h1,h2,h3⟩:=(H.a 4 rfl)
   have o1:=VP1.ratn h2
   have o2:=VP1.ratn h3
   rw [h1] at e11
   refine ⟨μ.setRow b #[x1,x2],ex_store_row 178 _ _ rfl e4 e11 hb (by kernel_rfl) rfl (by simp [o1,o2]),fun g=>⟨b,?_,hB,?_⟩,setRow_only _ _ _⟩
   · rw [upd_other _ _ (by decide)]; exact h0
   · rw [setRow_at hb]; try simp [upd,h1,Value.cells]
 refine .e rfl (V:=.bool true) (fun H=>by have e12:=H.g 12 5; have k_:=p0; clear H; go_simp <;> first | (simp_all; done) | omega | exact len_gt z0_) ?_
 refine .dk (fun u=>rciV r::sq u1 0 3 (u 6::u 8::U::u 3::sq u 0 3 (u 4::u 5::us 32))) K4 bel fun u2 w2 D bel=>?_
 obtain ⟨x5,x6,E2_4,F_x5,F_x6⟩:=(D.rr 4)
 obtain ⟨b7,E2_6,A7,B7⟩:=(D.a 7 rfl)
 replace A7:=le2 D.le A7
 have E2_8:=D.q 8
 have N3_7:=D.n1 6 (lt_of B3) E2_6
 replace B2:=D.k B2
 replace B3:=D.k B3
 simp only [Value.cells,E2_4,E2_6] at B7
 replace B7:w2.heap[b7]? = some (.cells #[x5,x6] 178 (0,0)):=B7
 clear D
 refine gd 10 (Amb Z0 W) fun _ K8=>?_
 refine .fz rfl 1 0 E1_0 ?_
 refine .lp rfl 0 (rfC r.a) B2 ?_
 refine .cK rfl Tryz.func198 (fun H=>⟨_,ar1 (H.g 14 1),eRatF _ (by first | assumption | omega)⟩) ?_
 refine .lr rfl 4 E2_6 B7 ?_
 refine .fz rfl 1 12 E1_0 ?_
 refine .lp rfl 4 (rfC r.c) B2 ?_
 refine .cR rfl [] Tryz.func198 (fun H=>⟨_,ar1 (H.g 18 5),eRatA _⟩) ?_
 refine Go2.fn (i:=7) rfl (G0 rfl) (SP.fnL 7 [6] (fun u=>.agg #[.pointer none,x5,x6,(u 6).v]) (by intro u u' h; simp [h 6 (by simp)])) (fun u μ ρ H=>⟨_,by have e15:=H.g 15 2; have e16:=H.g 16 3; have e19:=H.r 19 6; obtain ⟨x6,h6⟩:=PtrP.isPtr (H.a 6 rfl); clear H; go_simp,SP.fnL_upd (by decide)⟩) ?_
 refine .al rfl (#[.pointer none,.pointer none,.pointer none,.pointer none]) ?_
 refine Go2.storeOwn (i:=9) (m:=8) rfl rfl (.head _) (SP.cells 8 [6] (fun u=>#[.pointer none,x5,x6,(u 6).v]) 203 (by intro u u' h; simp [h 6 (by simp)])) (fun u μ ρ b H h0 hB hb=>?_) ?_
 · have e6:=H.r 6 8; have e20:=H.e 20 7 (by kernel_rfl) (H.a 7 rfl); have o_x5:=VP1.ratn F_x5; have o_x6:=VP1.ratn F_x6; have o6:=VP1.ptr (H.a 6 rfl)
   rw [h0] at e6
   refine ⟨μ.setRow b #[.pointer none,x5,x6,(u 6).v],ex_store_row 203 _ _ rfl e6 e20 hb (by kernel_rfl) rfl (by simp [o_x5,o_x6,o6] <;> rfl),fun g=>⟨b,?_,hB,?_⟩,setRow_only _ _ _⟩
   · rw [upd_other _ _ (by decide)]; exact h0
   · rw [setRow_at hb]; try simp [upd]
 refine .dk (fun u=>rciV r::sq u1 0 3 (u2 6::u2 8::u 8::u2 3::sq u2 0 3 (u2 4::u2 5::sq u 0 8 (us 24)))) K8 bel fun u3 w3 D bel=>?_
 obtain ⟨x9,E3_6,F_x9⟩:∃ x_,(u3 6).v = x_ ∧ (PtrP 0).p (Amb Z0 W) x_ w3:=⟨_,rfl,D.rr 6⟩
 obtain ⟨b10,E3_8,A10,B10⟩:=(D.a 9 rfl)
 replace A10:=le2 D.le A10
 have N3_10:=D.n1 8 (lt_of B3) E3_8
 replace B3:=D.k B3
 simp only [Value.cells,E3_6,E3_8] at B10
 replace F_x5:=D.gr (RatN ((gvm r.b).re)) F_x5
 replace F_x6:=D.gr (RatN ((gvm r.b).im)) F_x6
 clear D
 refine wp_seq_k fun _ K11=>?_
 refine gs 18 (Amb Z0 W) fun _ K12=>?_
 refine .mz rfl 5 E2_8 ?_
 refine .e rfl (V:=.bool false) (fun H=>x_not (H.g 21 0)) ?_
 refine .mv rfl 1 ?_
 refine .fz rfl 6 0 E3_8 ?_ (hg:=gq 2 rfl)
 refine .lc rfl 3 B10 ?_ (V:=.pointer none) (hg:=gq 2 rfl)
 refine .e rfl (V:=.bool true) (fun H=>x_nnE (H.g 25 4) (H.c _)) ?_ (hg:=gq 2 rfl)
 refine .e rfl (fun H=>x_pkF (H.g 23 2) (H.g 26 5)) ?_
 refine .mv rfl 6 ?_
 refine .sk rfl 7 ?_
 refine .sk rfl 7 ?_
 refine .sk rfl 7 ?_
 refine .e rfl (fun H=>x_pkT (H.g 28 7) (H.c _)) ?_
 refine .mv rfl 11 ?_
 refine .sk rfl 12 ?_
 refine .sk rfl 12 ?_
 refine .sk rfl 12 ?_
 refine .sk rfl 12 ?_
 refine .e rfl (fun H=>x_pkT (H.g 33 12) (H.c _)) ?_
 refine .dk (fun u=>rciV r::sq u1 0 3 (u2 6::u2 8::u3 8::u2 3::sq u2 0 3 (u2 4::u2 5::sq u3 0 8 (sq u 0 18 (us 6))))) K12 bel fun u4 w4 D bel=>?_
 have E4_17:=D.q 17
 replace B3:=D.k B3
 replace B10:=D.k B10
 replace F_x5:=D.gr (RatN ((gvm r.b).re)) F_x5
 replace F_x6:=D.gr (RatN ((gvm r.b).im)) F_x6
 replace F_x9:=D.gr (PtrP 0) F_x9
 clear D
 refine wp_cond_true (by exact E4_17) ?_
 refine gs1 3 (Amb Z0 W) 1 B3 fun _ K13=>?_
 refine .e rfl (V:=.agg #[.pointer none,.pointer none,.pointer none,.pointer none]) (fun H=>by clear H; go_simp) ?_
 refine .s1 rfl B3 (fun H=>⟨H.z 2 E1_1,H.g 39 0⟩) ?_
 refine .mc rfl ?_
 refine .d1 (fun u=>rciV r::u1 0::u1 1::u 2::u2 6::u2 8::u3 8::u2 3::sq u2 0 3 (u2 4::u2 5::sq u3 0 8 (sq u4 0 18 (u 0::us 5)))) K13 bel A3 fun u5 w5 D bel=>?_
 have E5_2:=D.q 2
 replace B3:=D.ol 1
 clear D
 refine wp_ret ?_
 refine ret_ok rfl (by exact results_mix rfl (by exact E1_1) B3 Tryz.underlying203 rfl (by kernel_rfl) (by exact E5_2)) (RetV.mk ?_ bel)
 exact congrArg Ending.returned (rfl)
theorem eWheelC (r:RCi) (p0:gmay r.b = true) (p1:fmay r.a = true) (p2:fmay r.c = false) :
  Calls Tryz.prog 155 #[rciV r] W (RetV (.tuple #[.agg #[.pointer none,.pointer none,.pointer none,.pointer none],.bool false]) W):=by
 have bel:=b0 W
 go_enter Tryz.func155,Tryz.ntmps155
 refine gs 3 (Amb Z0 W) fun _ K1=>?_
 refine .bx rfl (fun H=>H.v 0 (rciV r)) ?_
 refine .al rfl (#[.pointer none,.pointer none,.pointer none,.pointer none]) ?_
 refine .mc rfl ?_
 refine .dk (fun u=>rciV r::sq u 0 3 (us 41)) K1 bel fun u1 w1 D bel=>?_
 obtain ⟨b2,E1_0,A2,B2⟩:=D.nw 0
 obtain ⟨b3,E1_1,A3,B3⟩:=D.nw 1
 have E1_2:=D.q 2
 have N2_3:=D.n2 0 1 E1_0 E1_1
 clear D
 refine gs 9 (Amb Z0 W) fun _ K4=>?_
 refine .fz rfl 1 4 E1_0 ?_
 refine .lp rfl 0 (rgC r.b) B2 ?_
 refine .cR rfl [] Tryz.func197 (fun H=>⟨_,ar1 (H.g 9 1),eOfR _⟩) ?_
 refine .mn rfl 2 [2] ?_
 refine Go2.fn (i:=4) rfl (G0 rfl) (.val 4 [2,3] (NumP (gvm r.b))) (fun u μ ρ H=>by have e7:=H.r 7 3; have h0:=(H.a 3 rfl); obtain ⟨x0,x1,h1,h2⟩:=h0; rw [h1] at e7; exact ⟨x0,by clear H; go_simp,SP.tupKeep (by decide) (by decide) h2.1⟩) ?_
 refine .e rfl (V:=.bool (gmay r.b)) (fun H=>by have e7:=H.r 7 3; have h0:=(H.a 3 rfl); obtain ⟨x0,x1,h1,h2,h3⟩:=h0; rw [h1] at e7; have h3:x1 = .bool (gmay r.b):=h3; subst h3; clear H; go_simp) ?_
 refine .al rfl (#[.pointer none,.pointer none]) ?_
 refine Go2.storeOwn (i:=7) (m:=6) rfl rfl (.head _) (SP.cells 6 [4] (fun u=>#[((u 4).v.cells.getD 0 undef),((u 4).v.cells.getD 1 undef)]) 178 (by intro u u' h; simp [h 4 (by simp)])) (fun u μ ρ b H h0 hB hb=>?_) ?_
 · have e4:=H.r 4 6; have e11:=H.r 11 4
   rw [h0] at e4
   obtain ⟨x1,x2,h1,h2,h3⟩:=(H.a 4 rfl)
   have o1:=VP1.ratn h2
   have o2:=VP1.ratn h3
   rw [h1] at e11
   refine ⟨μ.setRow b #[x1,x2],ex_store_row 178 _ _ rfl e4 e11 hb (by kernel_rfl) rfl (by simp [o1,o2]),fun g=>⟨b,?_,hB,?_⟩,setRow_only _ _ _⟩
   · rw [upd_other _ _ (by decide)]; exact h0
   · rw [setRow_at hb]; try simp [upd,h1,Value.cells]
 refine .e rfl (V:=.bool true) (fun H=>by have e12:=H.g 12 5; have k_:=p0; clear H; go_simp <;> first | (simp_all; done) | omega | exact len_gt z0_) ?_
 refine .dk (fun u=>rciV r::sq u1 0 3 (u 6::u 8::U::u 3::sq u 0 3 (u 4::u 5::us 32))) K4 bel fun u2 w2 D bel=>?_
 obtain ⟨x5,x6,E2_4,F_x5,F_x6⟩:=(D.rr 4)
 obtain ⟨b7,E2_6,A7,B7⟩:=(D.a 7 rfl)
 replace A7:=le2 D.le A7
 have E2_8:=D.q 8
 have N3_7:=D.n1 6 (lt_of B3) E2_6
 replace B2:=D.k B2
 replace B3:=D.k B3
 simp only [Value.cells,E2_4,E2_6] at B7
 replace B7:w2.heap[b7]? = some (.cells #[x5,x6] 178 (0,0)):=B7
 clear D
 refine gd 10 (Amb Z0 W) fun _ K8=>?_
 refine .fz rfl 1 0 E1_0 ?_
 refine .lp rfl 0 (rfC r.a) B2 ?_
 refine .cR rfl [] Tryz.func198 (fun H=>⟨_,ar1 (H.g 14 1),eRatT _ (by first | assumption | omega)⟩) ?_
 refine .lr rfl 4 E2_6 B7 ?_
 refine .fz rfl 1 12 E1_0 ?_
 refine .lp rfl 4 (rfC r.c) B2 ?_
 refine .cK rfl Tryz.func198 (fun H=>⟨_,ar1 (H.g 18 5),eRatF _ (by first | assumption | omega)⟩) ?_
 refine Go2.fn (i:=7) rfl (G0 rfl) (SP.fnL 7 [2] (fun u=>.agg #[(u 2).v,x5,x6,.pointer none]) (by intro u u' h; simp [h 2 (by simp)])) (fun u μ ρ H=>⟨_,by have e15:=H.r 15 2; have e16:=H.g 16 3; have e19:=H.g 19 6; obtain ⟨x2,h2⟩:=RatP.isPtr (H.a 2 rfl); clear H; go_simp,SP.fnL_upd (by decide)⟩) ?_
 refine .al rfl (#[.pointer none,.pointer none,.pointer none,.pointer none]) ?_
 refine Go2.storeOwn (i:=9) (m:=8) rfl rfl (.head _) (SP.cells 8 [2] (fun u=>#[(u 2).v,x5,x6,.pointer none]) 203 (by intro u u' h; simp [h 2 (by simp)])) (fun u μ ρ b H h0 hB hb=>?_) ?_
 · have e6:=H.r 6 8; have e20:=H.e 20 7 (by kernel_rfl) (H.a 7 rfl); have o2:=VP1.rat (H.a 2 rfl); have o_x5:=VP1.ratn F_x5; have o_x6:=VP1.ratn F_x6
   rw [h0] at e6
   refine ⟨μ.setRow b #[(u 2).v,x5,x6,.pointer none],ex_store_row 203 _ _ rfl e6 e20 hb (by kernel_rfl) rfl (by simp [o2,o_x5,o_x6] <;> rfl),fun g=>⟨b,?_,hB,?_⟩,setRow_only _ _ _⟩
   · rw [upd_other _ _ (by decide)]; exact h0
   · rw [setRow_at hb]; try simp [upd]
 refine .dk (fun u=>rciV r::sq u1 0 3 (u2 6::u2 8::u 8::u2 3::sq u2 0 3 (u2 4::u2 5::sq u 0 8 (us 24)))) K8 bel fun u3 w3 D bel=>?_
 obtain ⟨b9,E3_2,L9,F9⟩:=RatP.elim (D.rr 2)
 obtain ⟨b10,E3_8,A10,B10⟩:=(D.a 9 rfl)
 replace A10:=le2 D.le A10
 have N3_10:=D.n1 8 (lt_of B3) E3_8
 replace B3:=D.k B3
 simp only [Value.cells,E3_2,E3_8] at B10
 replace F_x5:=D.gr (RatN ((gvm r.b).re)) F_x5
 replace F_x6:=D.gr (RatN ((gvm r.b).im)) F_x6
 clear D
 refine wp_seq_k fun _ K11=>?_
 refine gs 18 (Amb Z0 W) fun _ K12=>?_
 refine .mz rfl 5 E2_8 ?_
 refine .e rfl (V:=.bool false) (fun H=>x_not (H.g 21 0)) ?_
 refine .mv rfl 1 ?_
 refine .fz rfl 6 0 E3_8 ?_ (hg:=gq 2 rfl)
 refine .lc rfl 3 B10 ?_ (V:=pt b9) (hg:=gq 2 rfl)
 refine .e rfl (V:=.bool false) (fun H=>x_pnE (H.g 25 4) (H.c _)) ?_ (hg:=gq 2 rfl)
 refine .e rfl (fun H=>x_pkF (H.g 23 2) (H.g 26 5)) ?_
 refine .mv rfl 6 ?_
 refine .fz rfl 6 3 E3_8 ?_ (hg:=gq 7 rfl)
 refine .lc rfl 8 B10 ?_ (V:=.pointer none) (hg:=gq 7 rfl)
 refine .e rfl (V:=.bool true) (fun H=>x_nnE (H.g 30 9) (H.c _)) ?_ (hg:=gq 7 rfl)
 refine .e rfl (fun H=>x_pkF (H.g 28 7) (H.g 31 10)) ?_
 refine .mv rfl 11 ?_
 refine .sk rfl 12 ?_
 refine .sk rfl 12 ?_
 refine .sk rfl 12 ?_
 refine .sk rfl 12 ?_
 refine .e rfl (fun H=>x_pkT (H.g 33 12) (H.c _)) ?_
 refine .dk (fun u=>rciV r::sq u1 0 3 (u2 6::u2 8::u3 8::u2 3::sq u2 0 3 (u2 4::u2 5::sq u3 0 8 (sq u 0 18 (us 6))))) K12 bel fun u4 w4 D bel=>?_
 have E4_17:=D.q 17
 replace B3:=D.k B3
 replace B10:=D.k B10
 replace F9:=D.o L9 F9
 replace F_x5:=D.gr (RatN ((gvm r.b).re)) F_x5
 replace F_x6:=D.gr (RatN ((gvm r.b).im)) F_x6
 clear D
 refine wp_cond_true (by exact E4_17) ?_
 refine gs1 3 (Amb Z0 W) 1 B3 fun _ K13=>?_
 refine .e rfl (V:=.agg #[.pointer none,.pointer none,.pointer none,.pointer none]) (fun H=>by clear H; go_simp) ?_
 refine .s1 rfl B3 (fun H=>⟨H.z 2 E1_1,H.g 39 0⟩) ?_
 refine .mc rfl ?_
 refine .d1 (fun u=>rciV r::u1 0::u1 1::u 2::u2 6::u2 8::u3 8::u2 3::sq u2 0 3 (u2 4::u2 5::sq u3 0 8 (sq u4 0 18 (u 0::us 5)))) K13 bel A3 fun u5 w5 D bel=>?_
 have E5_2:=D.q 2
 replace B3:=D.ol 1
 clear D
 refine wp_ret ?_
 refine ret_ok rfl (by exact results_mix rfl (by exact E1_1) B3 Tryz.underlying203 rfl (by kernel_rfl) (by exact E5_2)) (RetV.mk ?_ bel)
 exact congrArg Ending.returned (rfl)
theorem eWheelP (c:Ci) (p0:cifits (rci c) = true) (p1:c.pos = false) :
  Calls Tryz.prog 155 #[ciV c] W (RetV (.tuple #[.agg #[.pointer none,.pointer none,.pointer none,.pointer none],.bool false]) W):=by
 have f:=cifits_ht p0
 have bel:=b0 W
 go_enter Tryz.func155,Tryz.ntmps155
 refine gs 3 (Amb Z0 W) fun _ K1=>?_
 refine .bx rfl (fun H=>H.v 0 (ciV c)) ?_
 refine .al rfl (#[.pointer none,.pointer none,.pointer none,.pointer none]) ?_
 refine .mc rfl ?_
 refine .dk (fun u=>ciV c::sq u 0 3 (us 41)) K1 bel fun u1 w1 D bel=>?_
 obtain ⟨b2,E1_0,A2,B2⟩:=D.nw 0
 obtain ⟨b3,E1_1,A3,B3⟩:=D.nw 1
 have E1_2:=D.q 2
 have N2_3:=D.n2 0 1 E1_0 E1_1
 clear D
 refine gs 9 (Amb Z0 W) fun _ K4=>?_
 refine .fz rfl 1 4 E1_0 ?_
 refine .lp rfl 0 (gC c.b) B2 ?_
 refine .cR rfl [] Tryz.func197 (fun H=>⟨_,ar1 (H.g 9 1),eOf _ (by first | omega | exact (and_3 p0).1 | exact (and_3 p0).2.1 | exact (and_3 p0).2.2 | exact pos_flat p1)⟩) ?_
 refine .mn rfl 2 [2] ?_
 refine Go2.fn (i:=4) rfl (G0 rfl) (.val 4 [2,3] (NumP c.b)) (fun u μ ρ H=>by have e7:=H.r 7 3; have h0:=(H.a 3 rfl); obtain ⟨x0,x1,h1,h2⟩:=h0; rw [h1] at e7; exact ⟨x0,by clear H; go_simp,SP.tupKeep (by decide) (by decide) h2.1⟩) ?_
 refine .e rfl (V:=.bool true) (fun H=>by have e7:=H.r 7 3; have h0:=(H.a 3 rfl); obtain ⟨x0,x1,h1,h2,h3⟩:=h0; rw [h1] at e7; have h3:x1 = .bool true:=h3; subst h3; clear H; go_simp) ?_
 refine .al rfl (#[.pointer none,.pointer none]) ?_
 refine Go2.storeOwn (i:=7) (m:=6) rfl rfl (.head _) (SP.cells 6 [4] (fun u=>#[((u 4).v.cells.getD 0 undef),((u 4).v.cells.getD 1 undef)]) 178 (by intro u u' h; simp [h 4 (by simp)])) (fun u μ ρ b H h0 hB hb=>?_) ?_
 · have e4:=H.r 4 6; have e11:=H.r 11 4
   rw [h0] at e4
   obtain ⟨x1,x2,h1,h2,h3⟩:=(H.a 4 rfl)
   have o1:=VP1.ratn h2
   have o2:=VP1.ratn h3
   rw [h1] at e11
   refine ⟨μ.setRow b #[x1,x2],ex_store_row 178 _ _ rfl e4 e11 hb (by kernel_rfl) rfl (by simp [o1,o2]),fun g=>⟨b,?_,hB,?_⟩,setRow_only _ _ _⟩
   · rw [upd_other _ _ (by decide)]; exact h0
   · rw [setRow_at hb]; try simp [upd,h1,Value.cells]
 refine .mv rfl 5 ?_
 refine .dk (fun u=>ciV c::sq u1 0 3 (u 6::u 8::U::u 3::sq u 0 3 (u 4::u 5::us 32))) K4 bel fun u2 w2 D bel=>?_
 obtain ⟨x5,x6,E2_4,F_x5,F_x6⟩:=(D.rr 4)
 obtain ⟨b7,E2_6,A7,B7⟩:=(D.a 7 rfl)
 replace A7:=le2 D.le A7
 have E2_8:=D.q 8
 have N3_7:=D.n1 6 (lt_of B3) E2_6
 replace B2:=D.k B2
 replace B3:=D.k B3
 simp only [Value.cells,E2_4,E2_6] at B7
 replace B7:w2.heap[b7]? = some (.cells #[x5,x6] 178 (0,0)):=B7
 clear D
 refine gd 10 (Amb Z0 W) fun _ K8=>?_
 refine .fz rfl 1 0 E1_0 ?_
 refine .lp rfl 0 (fC c.a) B2 ?_
 refine .cR rfl [] Tryz.func198 (fun H=>⟨_,ar1 (H.g 14 1),eRatOk _ (by first | omega | exact (and_3 p0).1 | exact (and_3 p0).2.1 | exact (and_3 p0).2.2 | exact pos_flat p1)⟩) ?_
 refine .lr rfl 4 E2_6 B7 ?_
 refine .fz rfl 1 12 E1_0 ?_
 refine .lp rfl 4 (fC c.c) B2 ?_
 refine .cR rfl [] Tryz.func198 (fun H=>⟨_,ar1 (H.g 18 5),eRatOk _ (by first | omega | exact (and_3 p0).1 | exact (and_3 p0).2.1 | exact (and_3 p0).2.2 | exact pos_flat p1)⟩) ?_
 refine Go2.fn (i:=7) rfl (G0 rfl) (SP.fnL 7 [2,6] (fun u=>.agg #[(u 2).v,x5,x6,(u 6).v]) (by intro u u' h; simp [h 2 (by simp),h 6 (by simp)])) (fun u μ ρ H=>⟨_,by have e15:=H.r 15 2; have e16:=H.g 16 3; have e19:=H.r 19 6; obtain ⟨x2,h2⟩:=RatP.isPtr (H.a 2 rfl); obtain ⟨x6,h6⟩:=RatP.isPtr (H.a 6 rfl); clear H; go_simp,SP.fnL_upd (by decide)⟩) ?_
 refine .al rfl (#[.pointer none,.pointer none,.pointer none,.pointer none]) ?_
 refine Go2.storeOwn (i:=9) (m:=8) rfl rfl (.head _) (SP.cells 8 [2,6] (fun u=>#[(u 2).v,x5,x6,(u 6).v]) 203 (by intro u u' h; simp [h 2 (by simp),h 6 (by simp)])) (fun u μ ρ b H h0 hB hb=>?_) ?_
 · have e6:=H.r 6 8; have e20:=H.e 20 7 (by kernel_rfl) (H.a 7 rfl); have o2:=VP1.rat (H.a 2 rfl); have o_x5:=VP1.ratn F_x5; have o_x6:=VP1.ratn F_x6; have o6:=VP1.rat (H.a 6 rfl)
   rw [h0] at e6
   refine ⟨μ.setRow b #[(u 2).v,x5,x6,(u 6).v],ex_store_row 203 _ _ rfl e6 e20 hb (by kernel_rfl) rfl (by simp [o2,o_x5,o_x6,o6] <;> rfl),fun g=>⟨b,?_,hB,?_⟩,setRow_only _ _ _⟩
   · rw [upd_other _ _ (by decide)]; exact h0
   · rw [setRow_at hb]; try simp [upd]
 refine .dk (fun u=>ciV c::sq u1 0 3 (u2 6::u2 8::u 8::u2 3::sq u2 0 3 (u2 4::u2 5::sq u 0 8 (us 24)))) K8 bel fun u3 w3 D bel=>?_
 obtain ⟨b9,E3_2,L9,F9⟩:=RatP.elim (D.rr 2)
 obtain ⟨b10,E3_6,L10,F10⟩:=RatP.elim (D.rr 6)
 obtain ⟨b11,E3_8,A11,B11⟩:=(D.a 9 rfl)
 replace A11:=le2 D.le A11
 have N3_11:=D.n1 8 (lt_of B3) E3_8
 replace B3:=D.k B3
 simp only [Value.cells,E3_2,E3_6,E3_8] at B11
 replace F_x5:=D.gr (RatN c.b.re) F_x5
 replace F_x6:=D.gr (RatN c.b.im) F_x6
 clear D
 refine wp_seq_k fun _ K12=>?_
 refine gs 18 (Amb Z0 W) fun _ K13=>?_
 refine .mz rfl 5 E2_8 ?_
 refine .e rfl (V:=.bool false) (fun H=>x_not (H.g 21 0)) ?_
 refine .mv rfl 1 ?_
 refine .fz rfl 6 0 E3_8 ?_ (hg:=gq 2 rfl)
 refine .lc rfl 3 B11 ?_ (V:=pt b9) (hg:=gq 2 rfl)
 refine .e rfl (V:=.bool false) (fun H=>x_pnE (H.g 25 4) (H.c _)) ?_ (hg:=gq 2 rfl)
 refine .e rfl (fun H=>x_pkF (H.g 23 2) (H.g 26 5)) ?_
 refine .mv rfl 6 ?_
 refine .fz rfl 6 3 E3_8 ?_ (hg:=gq 7 rfl)
 refine .lc rfl 8 B11 ?_ (V:=pt b10) (hg:=gq 7 rfl)
 refine .e rfl (V:=.bool false) (fun H=>x_pnE (H.g 30 9) (H.c _)) ?_ (hg:=gq 7 rfl)
 refine .e rfl (fun H=>x_pkF (H.g 28 7) (H.g 31 10)) ?_
 refine .mv rfl 11 ?_
 refine .lr rfl 6 E3_8 B11 ?_ (hg:=gq 12 rfl)
 refine .cR rfl [] Tryz.func141 (fun H=>⟨_,ar1 (H.g 34 13),rgPow c (RingP.mk (H.was _ [] (VP.at F9 L9)) (H.was _ [] F_x5) (H.was _ [] F_x6) (H.was _ [] (VP.at F10 L10))) (by first | omega | exact (and_3 p0).1 | exact (and_3 p0).2.1 | exact (and_3 p0).2.2 | exact pos_flat p1)⟩) ?_ (hg:=gq 12 rfl)
 refine .cK rfl Tryz.func140 (fun H=>⟨_,ar1 (H.r 35 14),qSign _ (SV.any (H.a 14 rfl))⟩) ?_ (hg:=gq 12 rfl)
 refine .e rfl (V:=.bool true) (fun H=>x_cm (H.g 36 15) (H.c _) (pos_no p1)) ?_ (hg:=gq 12 rfl)
 refine .e rfl (fun H=>x_pkF (H.g 33 12) (H.g 37 16)) ?_
 refine .dk (fun u=>ciV c::sq u1 0 3 (u2 6::u2 8::u3 8::u2 3::sq u2 0 3 (u2 4::u2 5::sq u3 0 8 (sq u 0 18 (us 6))))) K13 bel fun u4 w4 D bel=>?_
 have E4_17:=D.q 17
 replace B3:=D.k B3
 replace B11:=D.k B11
 replace F9:=D.o L9 F9
 replace F10:=D.o L10 F10
 replace F_x5:=D.gr (RatN c.b.re) F_x5
 replace F_x6:=D.gr (RatN c.b.im) F_x6
 clear D
 refine wp_cond_true (by exact E4_17) ?_
 refine gs1 3 (Amb Z0 W) 1 B3 fun _ K14=>?_
 refine .e rfl (V:=.agg #[.pointer none,.pointer none,.pointer none,.pointer none]) (fun H=>by clear H; go_simp) ?_
 refine .s1 rfl B3 (fun H=>⟨H.z 2 E1_1,H.g 39 0⟩) ?_
 refine .mc rfl ?_
 refine .d1 (fun u=>ciV c::u1 0::u1 1::u 2::u2 6::u2 8::u3 8::u2 3::sq u2 0 3 (u2 4::u2 5::sq u3 0 8 (sq u4 0 18 (u 0::us 5)))) K14 bel A3 fun u5 w5 D bel=>?_
 have E5_2:=D.q 2
 replace B3:=D.ol 1
 clear D
 refine wp_ret ?_
 refine ret_ok rfl (by exact results_mix rfl (by exact E1_1) B3 Tryz.underlying203 rfl (by kernel_rfl) (by exact E5_2)) (RetV.mk ?_ bel)
 exact congrArg Ending.returned (rfl)
theorem eWheelY (c:Ci) (p0:cifits (rci c) = true) (p1:c.pos = true) :
  Calls Tryz.prog 155 #[ciV c] W (Ret (VP.tup (RingP c) (VP.is (.bool (decide (c.nrm = c))))) S W):=by
 have f:=cifits_ht p0
 have h1:=nrm_ht c
 have h2:=piv_ht c
 unfold Ci.hh Cx.hh at h2
 have bel:=b0 W
 go_enter Tryz.func155,Tryz.ntmps155
 refine gs 3 (Amb S W) fun _ K1=>?_
 refine .bx rfl (fun H=>H.v 0 (ciV c)) ?_
 refine .al rfl (#[.pointer none,.pointer none,.pointer none,.pointer none]) ?_
 refine .mc rfl ?_
 refine .dk (fun u=>ciV c::sq u 0 3 (us 41)) K1 bel fun u1 w1 D bel=>?_
 obtain ⟨b2,E1_0,A2,B2⟩:=D.nw 0
 obtain ⟨b3,E1_1,A3,B3⟩:=D.nw 1
 have E1_2:=D.q 2
 have N2_3:=D.n2 0 1 E1_0 E1_1
 clear D
 refine gs 9 (Amb S W) fun _ K4=>?_
 refine .fz rfl 1 4 E1_0 ?_
 refine .lp rfl 0 (gC c.b) B2 ?_
 refine .cR rfl [] Tryz.func197 (fun H=>⟨_,ar1 (H.g 9 1),eOf _ (by first | omega | exact (and_3 p0).1 | exact (and_3 p0).2.1 | exact (and_3 p0).2.2 | exact pos_flat p1)⟩) ?_
 refine .mn rfl 2 [2] ?_
 refine Go2.fn (i:=4) rfl (G0 rfl) (.val 4 [2,3] (NumP c.b)) (fun u μ ρ H=>by have e7:=H.r 7 3; have h0:=(H.a 3 rfl); obtain ⟨x0,x1,h1,h2⟩:=h0; rw [h1] at e7; exact ⟨x0,by clear H; go_simp,SP.tupKeep (by decide) (by decide) h2.1⟩) ?_
 refine .e rfl (V:=.bool true) (fun H=>by have e7:=H.r 7 3; have h0:=(H.a 3 rfl); obtain ⟨x0,x1,h1,h2,h3⟩:=h0; rw [h1] at e7; have h3:x1 = .bool true:=h3; subst h3; clear H; go_simp) ?_
 refine .al rfl (#[.pointer none,.pointer none]) ?_
 refine Go2.storeOwn (i:=7) (m:=6) rfl rfl (.head _) (SP.cells 6 [4] (fun u=>#[((u 4).v.cells.getD 0 undef),((u 4).v.cells.getD 1 undef)]) 178 (by intro u u' h; simp [h 4 (by simp)])) (fun u μ ρ b H h0 hB hb=>?_) ?_
 · have e4:=H.r 4 6; have e11:=H.r 11 4
   rw [h0] at e4
   obtain ⟨x1,x2,h1,h2,h3⟩:=(H.a 4 rfl)
   have o1:=VP1.ratn h2
   have o2:=VP1.ratn h3
   rw [h1] at e11
   refine ⟨μ.setRow b #[x1,x2],ex_store_row 178 _ _ rfl e4 e11 hb (by kernel_rfl) rfl (by simp [o1,o2]),fun g=>⟨b,?_,hB,?_⟩,setRow_only _ _ _⟩
   · rw [upd_other _ _ (by decide)]; exact h0
   · rw [setRow_at hb]; try simp [upd,h1,Value.cells]
 refine .mv rfl 5 ?_
 refine .dk (fun u=>ciV c::sq u1 0 3 (u 6::u 8::U::u 3::sq u 0 3 (u 4::u 5::us 32))) K4 bel fun u2 w2 D bel=>?_
 obtain ⟨x5,x6,E2_4,F_x5,F_x6⟩:=(D.rr 4)
 obtain ⟨b7,E2_6,A7,B7⟩:=(D.a 7 rfl)
 replace A7:=le2 D.le A7
 have E2_8:=D.q 8
 have N3_7:=D.n1 6 (lt_of B3) E2_6
 replace B2:=D.k B2
 replace B3:=D.k B3
 simp only [Value.cells,E2_4,E2_6] at B7
 replace B7:w2.heap[b7]? = some (.cells #[x5,x6] 178 (0,0)):=B7
 clear D
 refine gd 10 (Amb S W) fun _ K8=>?_
 refine .fz rfl 1 0 E1_0 ?_
 refine .lp rfl 0 (fC c.a) B2 ?_
 refine .cR rfl [] Tryz.func198 (fun H=>⟨_,ar1 (H.g 14 1),eRatOk _ (by first | omega | exact (and_3 p0).1 | exact (and_3 p0).2.1 | exact (and_3 p0).2.2 | exact pos_flat p1)⟩) ?_
 refine .lr rfl 4 E2_6 B7 ?_
 refine .fz rfl 1 12 E1_0 ?_
 refine .lp rfl 4 (fC c.c) B2 ?_
 refine .cR rfl [] Tryz.func198 (fun H=>⟨_,ar1 (H.g 18 5),eRatOk _ (by first | omega | exact (and_3 p0).1 | exact (and_3 p0).2.1 | exact (and_3 p0).2.2 | exact pos_flat p1)⟩) ?_
 refine Go2.fn (i:=7) rfl (G0 rfl) (SP.fnL 7 [2,6] (fun u=>.agg #[(u 2).v,x5,x6,(u 6).v]) (by intro u u' h; simp [h 2 (by simp),h 6 (by simp)])) (fun u μ ρ H=>⟨_,by have e15:=H.r 15 2; have e16:=H.g 16 3; have e19:=H.r 19 6; obtain ⟨x2,h2⟩:=RatP.isPtr (H.a 2 rfl); obtain ⟨x6,h6⟩:=RatP.isPtr (H.a 6 rfl); clear H; go_simp,SP.fnL_upd (by decide)⟩) ?_
 refine .al rfl (#[.pointer none,.pointer none,.pointer none,.pointer none]) ?_
 refine Go2.storeOwn (i:=9) (m:=8) rfl rfl (.head _) (SP.cells 8 [2,6] (fun u=>#[(u 2).v,x5,x6,(u 6).v]) 203 (by intro u u' h; simp [h 2 (by simp),h 6 (by simp)])) (fun u μ ρ b H h0 hB hb=>?_) ?_
 · have e6:=H.r 6 8; have e20:=H.e 20 7 (by kernel_rfl) (H.a 7 rfl); have o2:=VP1.rat (H.a 2 rfl); have o_x5:=VP1.ratn F_x5; have o_x6:=VP1.ratn F_x6; have o6:=VP1.rat (H.a 6 rfl)
   rw [h0] at e6
   refine ⟨μ.setRow b #[(u 2).v,x5,x6,(u 6).v],ex_store_row 203 _ _ rfl e6 e20 hb (by kernel_rfl) rfl (by simp [o2,o_x5,o_x6,o6] <;> rfl),fun g=>⟨b,?_,hB,?_⟩,setRow_only _ _ _⟩
   · rw [upd_other _ _ (by decide)]; exact h0
   · rw [setRow_at hb]; try simp [upd]
 refine .dk (fun u=>ciV c::sq u1 0 3 (u2 6::u2 8::u 8::u2 3::sq u2 0 3 (u2 4::u2 5::sq u 0 8 (us 24)))) K8 bel fun u3 w3 D bel=>?_
 obtain ⟨b9,E3_2,L9,F9⟩:=RatP.elim (D.rr 2)
 obtain ⟨b10,E3_6,L10,F10⟩:=RatP.elim (D.rr 6)
 obtain ⟨b11,E3_8,A11,B11⟩:=(D.a 9 rfl)
 replace A11:=le2 D.le A11
 have N3_11:=D.n1 8 (lt_of B3) E3_8
 replace B3:=D.k B3
 simp only [Value.cells,E3_2,E3_6,E3_8] at B11
 replace F_x5:=D.gr (RatN c.b.re) F_x5
 replace F_x6:=D.gr (RatN c.b.im) F_x6
 clear D
 refine wp_seq_k fun _ K12=>?_
 refine gs 18 (Amb S W) fun _ K13=>?_
 refine .mz rfl 5 E2_8 ?_
 refine .e rfl (V:=.bool false) (fun H=>x_not (H.g 21 0)) ?_
 refine .mv rfl 1 ?_
 refine .fz rfl 6 0 E3_8 ?_ (hg:=gq 2 rfl)
 refine .lc rfl 3 B11 ?_ (V:=pt b9) (hg:=gq 2 rfl)
 refine .e rfl (V:=.bool false) (fun H=>x_pnE (H.g 25 4) (H.c _)) ?_ (hg:=gq 2 rfl)
 refine .e rfl (fun H=>x_pkF (H.g 23 2) (H.g 26 5)) ?_
 refine .mv rfl 6 ?_
 refine .fz rfl 6 3 E3_8 ?_ (hg:=gq 7 rfl)
 refine .lc rfl 8 B11 ?_ (V:=pt b10) (hg:=gq 7 rfl)
 refine .e rfl (V:=.bool false) (fun H=>x_pnE (H.g 30 9) (H.c _)) ?_ (hg:=gq 7 rfl)
 refine .e rfl (fun H=>x_pkF (H.g 28 7) (H.g 31 10)) ?_
 refine .mv rfl 11 ?_
 refine .lr rfl 6 E3_8 B11 ?_ (hg:=gq 12 rfl)
 refine .cR rfl [] Tryz.func141 (fun H=>⟨_,ar1 (H.g 34 13),rgPow c (RingP.mk (H.was _ [] (VP.at F9 L9)) (H.was _ [] F_x5) (H.was _ [] F_x6) (H.was _ [] (VP.at F10 L10))) (by first | omega | exact (and_3 p0).1 | exact (and_3 p0).2.1 | exact (and_3 p0).2.2 | exact pos_flat p1)⟩) ?_ (hg:=gq 12 rfl)
 refine .cK rfl Tryz.func140 (fun H=>⟨_,ar1 (H.r 35 14),qSign _ (SV.any (H.a 14 rfl))⟩) ?_ (hg:=gq 12 rfl)
 refine .e rfl (V:=.bool false) (fun H=>x_cm (H.g 36 15) (H.c _) (pos_le p1)) ?_ (hg:=gq 12 rfl)
 refine .e rfl (fun H=>x_pkF (H.g 33 12) (H.g 37 16)) ?_
 refine .dk (fun u=>ciV c::sq u1 0 3 (u2 6::u2 8::u3 8::u2 3::sq u2 0 3 (u2 4::u2 5::sq u3 0 8 (sq u 0 18 (us 6))))) K13 bel fun u4 w4 D bel=>?_
 have E4_17:=D.q 17
 replace B3:=D.k B3
 replace B11:=D.k B11
 replace F9:=D.o L9 F9
 replace F10:=D.o L10 F10
 replace F_x5:=D.gr (RatN c.b.re) F_x5
 replace F_x6:=D.gr (RatN c.b.im) F_x6
 clear D
 refine wp_cond_false (by exact E4_17) ?_
 refine wp_skip ?_
 refine K12 _ _ ?_
 refine gd1 7 (Amb S W) 5 B3 fun _ K14=>?_
 refine .e rfl (fun H=>x_ldr (H.z 6 E3_8) (H.b1 B11 N3_11)) ?_
 refine .e rfl (fun H=>x_ldr (H.z 6 E3_8) (H.b1 B11 N3_11)) ?_
 refine .cR rfl [] Tryz.func144 (fun H=>⟨_,ar1 (H.g 41 1),rgNorm c (RingP.mk (H.was _ [] (VP.at F9 L9)) (H.was _ [] F_x5) (H.was _ [] F_x6) (H.was _ [] (VP.at F10 L10))) (by first | omega | exact (and_3 p0).1 | exact (and_3 p0).2.1 | exact (and_3 p0).2.2 | exact pos_flat p1) (by first | omega | exact (and_3 p0).1 | exact (and_3 p0).2.1 | exact (and_3 p0).2.2 | exact pos_flat p1)⟩) ?_
 refine .e rfl (fun H=>x_ldr (H.z 6 E3_8) (H.b1 B11 N3_11)) ?_
 refine .cK rfl Tryz.func241 (fun H=>⟨_,ar2 (H.r 42 2) (H.g 43 3),rgSame c.nrm c (SV.any (H.a 2 rfl)) (RingP.mk (VP.any _ (H.was _ [] (VP.at F9 L9))) (VP.any _ (H.was _ [] F_x5)) (VP.any _ (H.was _ [] F_x6)) (VP.any _ (H.was _ [] (VP.at F10 L10)))) (by first | omega | exact (and_3 p0).1 | exact (and_3 p0).2.1 | exact (and_3 p0).2.2 | exact pos_flat p1)⟩) ?_
 refine Go2.storeOld (i:=5) 0 b3 rfl rfl rfl ⟨_,_,_,B3,rfl⟩ (SP.old 0 b3 [] (fun u=>#[pt b9,x5,x6,pt b10]) 203 (by intro u u' h; simp []) (lt_of B3) (by intro y k hy; match y,hy with | 0,hy=>rfl)) (fun u μ ρ H=>?_) ?_
 · have e2:=H.z 2 E1_1; have e40:=H.g 40 0; have o_x5:=VP1.ratn F_x5; have o_x6:=VP1.ratn F_x6; have hb:=H.blkOld B3 0 5 rfl (.inl rfl)
   refine ⟨μ.setRow b3 #[pt b9,x5,x6,pt b10],ex_store_row 203 _ _ rfl e2 e40 hb (by kernel_rfl) rfl (by simp [o_x5,o_x6,ptr1] <;> rfl),fun g=>?_,setRow_only _ _ _⟩
   show (World.setRow _ _ _).heap[b3]? = _
   rw [setRow_at hb]; try simp [upd]
 refine .mv rfl 4 ?_
 refine .d1 (fun u=>ciV c::u1 0::u1 1::u 6::u2 6::u2 8::u3 8::u2 3::sq u2 0 3 (u2 4::u2 5::sq u3 0 8 (sq u4 0 18 (U::sq u 0 5 [])))) K14 bel A3 fun u5 w5 D bel=>?_
 have E5_6:=D.q 6
 replace B3:=D.ol 5
 replace F9:=D.o L9 F9
 replace F10:=D.o L10 F10
 replace F_x5:=D.gr (RatN c.b.re) F_x5
 replace F_x6:=D.gr (RatN c.b.im) F_x6
 clear D
 refine wp_ret ?_
 refine ret_ok rfl (by exact results_mix rfl (by exact E1_1) B3 Tryz.underlying203 rfl (by kernel_rfl) (by exact E5_6)) ⟨_,rfl,?_,bel⟩
 exact ⟨_,_,rfl,(RingP.mk (VP.at F9 L9) F_x5 F_x6 (VP.at F10 L10)),rfl⟩
theorem eSpotI :
  Calls Tryz.prog 156 #[rpnV (RPn.mk true rz)] W (Ret (VP.tup (PlaceP ⟨true,⟨0,0⟩⟩) (VP.is (.bool true))) S W):=by
 have bel:=b0 W
 go_enter Tryz.func156,Tryz.ntmps156
 refine gs 3 (Amb S W) fun _ K1=>?_
 refine .bx rfl (fun H=>H.v 0 (rpnV (RPn.mk true rz))) ?_
 refine .al rfl (#[.bool false,.pointer none,.pointer none]) ?_
 refine .mc rfl ?_
 refine .dk (fun u=>rpnV (RPn.mk true rz)::sq u 0 3 (us 17)) K1 bel fun u1 w1 D bel=>?_
 obtain ⟨b2,E1_0,A2,B2⟩:=D.nw 0
 obtain ⟨b3,E1_1,A3,B3⟩:=D.nw 1
 have E1_2:=D.q 2
 have N2_3:=D.n2 0 1 E1_0 E1_1
 clear D
 refine wp_seq_k fun _ K4=>?_
 refine gs 2 (Amb S W) fun _ K5=>?_
 refine .fz rfl 1 0 E1_0 ?_
 refine .lc rfl 0 B2 ?_ (V:=.bool true)
 refine .dk (fun u=>rpnV (RPn.mk true rz)::sq u1 0 3 (U::U::u 0::u 1::us 13)) K5 bel fun u2 w2 D bel=>?_
 have E2_1:=D.q 1
 replace B2:=D.k B2
 replace B3:=D.k B3
 clear D
 refine wp_cond_true (by exact E2_1) ?_
 refine gd1 6 (Amb S W) 4 B3 fun _ K6=>?_
 refine .e rfl (V:=.agg #[.bool true,.pointer none,.pointer none]) (fun H=>by have k0:=H.c (.bool true); clear H; go_simp) ?_
 refine .e rfl (fun H=>x_ldr (H.z 1 E1_0) (H.b1 B2 (Ne.symm N2_3))) ?_
 refine .e rfl (V:=rpnV (RPn.mk true rz)) (fun H=>by have k0:=H.c (.bool true); clear H; go_simp) ?_
 refine .e rfl (V:=.bool true) (fun H=>ex_eql_pn (r:=RPn.mk true rz) (q:=RPn.mk true rz) _ _ rfl (H.g 9 1) (H.g 10 2) (rfl.trans (decide_eq_true rfl))) ?_
 refine .s1 rfl B3 (fun H=>⟨H.z 2 E1_1,H.g 8 0⟩) ?_
 refine .mv rfl 3 ?_
 refine .d1 (fun u=>rpnV (RPn.mk true rz)::u1 0::u1 1::u 5::U::U::u2 0::u2 1::sq u 0 4 (us 9)) K6 bel A3 fun u3 w3 D bel=>?_
 have E3_5:=D.q 5
 replace B3:=D.ol 4
 clear D
 refine wp_ret ?_
 refine ret_ok rfl (by exact results_mix rfl (by exact E1_1) B3 Tryz.underlying229 rfl (by kernel_rfl) (by exact E3_5)) ⟨_,rfl,?_,bel⟩
 exact ⟨_,_,rfl,(PlaceP.mk (.inl ⟨rfl,rfl⟩) (.inl ⟨rfl,rfl⟩)),(rfl)⟩
theorem eSpotZ (z:Cx) (p0:gfits (rg z) = true) :
  Calls Tryz.prog 156 #[pnV (Pn.mk false z)] W (Ret (VP.tup (PlaceP ⟨false,z⟩) (VP.is (.bool true))) S W):=by
 have bel:=b0 W
 go_enter Tryz.func156,Tryz.ntmps156
 refine gs 3 (Amb S W) fun _ K1=>?_
 refine .bx rfl (fun H=>H.v 0 (pnV (Pn.mk false z))) ?_
 refine .al rfl (#[.bool false,.pointer none,.pointer none]) ?_
 refine .mc rfl ?_
 refine .dk (fun u=>pnV (Pn.mk false z)::sq u 0 3 (us 17)) K1 bel fun u1 w1 D bel=>?_
 obtain ⟨b2,E1_0,A2,B2⟩:=D.nw 0
 obtain ⟨b3,E1_1,A3,B3⟩:=D.nw 1
 have E1_2:=D.q 2
 have N2_3:=D.n2 0 1 E1_0 E1_1
 clear D
 refine wp_seq_k fun _ K4=>?_
 refine gs 2 (Amb S W) fun _ K5=>?_
 refine .fz rfl 1 0 E1_0 ?_
 refine .lc rfl 0 B2 ?_ (V:=.bool false)
 refine .dk (fun u=>pnV (Pn.mk false z)::sq u1 0 3 (U::U::u 0::u 1::us 13)) K5 bel fun u2 w2 D bel=>?_
 have E2_1:=D.q 1
 replace B2:=D.k B2
 replace B3:=D.k B3
 clear D
 refine wp_cond_false (by exact E2_1) ?_
 refine wp_skip ?_
 refine K4 _ _ ?_
 refine gs 9 (Amb S W) fun _ K6=>?_
 refine .fz rfl 1 1 E1_0 ?_
 refine .lp rfl 0 (gC z) B2 ?_
 refine .cR rfl [] Tryz.func197 (fun H=>⟨_,ar1 (H.g 14 1),eOf _ (by assumption)⟩) ?_
 refine .mn rfl 2 [2] ?_
 refine Go2.fn (i:=4) rfl (G0 rfl) (.val 4 [2,3] (NumP z)) (fun u μ ρ H=>by have e12:=H.r 12 3; have h0:=(H.a 3 rfl); obtain ⟨x0,x1,h1,h2⟩:=h0; rw [h1] at e12; exact ⟨x0,by clear H; go_simp,SP.tupKeep (by decide) (by decide) h2.1⟩) ?_
 refine .e rfl (V:=.bool true) (fun H=>by have e12:=H.r 12 3; have h0:=(H.a 3 rfl); obtain ⟨x0,x1,h1,h2,h3⟩:=h0; rw [h1] at e12; have h3:x1 = .bool true:=h3; subst h3; clear H; go_simp) ?_
 refine .al rfl (#[.pointer none,.pointer none]) ?_
 refine Go2.storeOwn (i:=7) (m:=6) rfl rfl (.head _) (SP.cells 6 [4] (fun u=>#[((u 4).v.cells.getD 0 undef),((u 4).v.cells.getD 1 undef)]) 178 (by intro u u' h; simp [h 4 (by simp)])) (fun u μ ρ b H h0 hB hb=>?_) ?_
 · have e4:=H.r 4 6; have e16:=H.r 16 4
   rw [h0] at e4
   obtain ⟨x1,x2,h1,h2,h3⟩:=(H.a 4 rfl)
   have o1:=VP1.ratn h2
   have o2:=VP1.ratn h3
   rw [h1] at e16
   refine ⟨μ.setRow b #[x1,x2],ex_store_row 178 _ _ rfl e4 e16 hb (by kernel_rfl) rfl (by simp [o1,o2]),fun g=>⟨b,?_,hB,?_⟩,setRow_only _ _ _⟩
   · rw [upd_other _ _ (by decide)]; exact h0
   · rw [setRow_at hb]; try simp [upd,h1,Value.cells]
 refine .mv rfl 5 ?_
 refine .dk (fun u=>pnV (Pn.mk false z)::sq u1 0 3 (u 6::u 8::u2 0::u2 1::U::U::U::U::u 3::sq u 0 3 (u 4::u 5::us 3))) K6 bel fun u3 w3 D bel=>?_
 obtain ⟨x7,x8,E3_4,F_x7,F_x8⟩:=(D.rr 4)
 obtain ⟨b9,E3_6,A9,B9⟩:=(D.a 7 rfl)
 replace A9:=le2 D.le A9
 have E3_8:=D.q 8
 have N3_9:=D.n1 6 (lt_of B3) E3_6
 replace B3:=D.k B3
 simp only [Value.cells,E3_4,E3_6] at B9
 replace B9:w3.heap[b9]? = some (.cells #[x7,x8] 178 (0,0)):=B9
 clear D
 refine gs1 5 (Amb S W) 3 B3 fun _ K10=>?_
 refine .e rfl (fun H=>x_ldr (H.z 4 E3_6) (H.b1 B9 N3_9)) ?_
 refine .e rfl (V:=.agg #[.bool false,x7,x8]) (fun H=>by have e18:=H.g 18 0; clear H; go_simp) ?_
 refine .mz rfl 5 E3_8 ?_
 refine Go2.storeOld (i:=3) 0 b3 rfl rfl rfl ⟨_,_,_,B3,rfl⟩ (SP.old 0 b3 [] (fun u=>#[.bool false,x7,x8]) 229 (by intro u u' h; simp []) (lt_of B3) (by intro y k hy; match y,hy with | 0,hy=>rfl)) (fun u μ ρ H=>?_) ?_
 · have e2:=H.z 2 E1_1; have e19:=H.g 19 1; have o_x7:=VP1.ratn F_x7; have o_x8:=VP1.ratn F_x8; have hb:=H.blkOld B3 0 3 rfl (.inl rfl)
   refine ⟨μ.setRow b3 #[.bool false,x7,x8],ex_store_row 229 _ _ rfl e2 e19 hb (by kernel_rfl) rfl (by simp [o_x7,o_x8] <;> rfl),fun g=>?_,setRow_only _ _ _⟩
   show (World.setRow _ _ _).heap[b3]? = _
   rw [setRow_at hb]; try simp [upd]
 refine .mv rfl 2 ?_
 refine .d1 (fun u=>pnV (Pn.mk false z)::u1 0::u1 1::u 4::u3 6::u3 8::u2 0::u2 1::U::U::U::U::u3 3::sq u3 0 3 (u3 4::u3 5::sq u 0 3 [])) K10 bel A3 fun u4 w4 D bel=>?_
 have E4_4:=D.q 4
 replace B3:=D.ol 3
 replace F_x7:=D.gr (RatN z.re) F_x7
 replace F_x8:=D.gr (RatN z.im) F_x8
 clear D
 refine wp_ret ?_
 refine ret_ok rfl (by exact results_mix rfl (by exact E1_1) B3 Tryz.underlying229 rfl (by kernel_rfl) (by exact E4_4)) ⟨_,rfl,?_,bel⟩
 exact ⟨_,_,rfl,(PlaceP.mk F_x7 F_x8),rfl⟩
theorem eSpotJ (r:RPn) :
  Calls Tryz.prog 156 #[rpnV r] W (Ret (VP.tup (PlaceJ 0) (VP.is (.bool (pnOk r)))) S W):=by
 have bel:=b0 W
 go_enter Tryz.func156,Tryz.ntmps156
 refine gs 3 (Amb S W) fun _ K1=>?_
 refine .bx rfl (fun H=>H.v 0 (rpnV r)) ?_
 refine .al rfl (#[.bool false,.pointer none,.pointer none]) ?_
 refine .mc rfl ?_
 refine .dk (fun u=>rpnV r::sq u 0 3 (us 17)) K1 bel fun u1 w1 D bel=>?_
 obtain ⟨b2,E1_0,A2,B2⟩:=D.nw 0
 obtain ⟨b3,E1_1,A3,B3⟩:=D.nw 1
 have E1_2:=D.q 2
 have N2_3:=D.n2 0 1 E1_0 E1_1
 clear D
 refine wp_seq_k fun _ K4=>?_
 refine gs 2 (Amb S W) fun _ K5=>?_
 refine .fz rfl 1 0 E1_0 ?_
 refine .lc rfl 0 B2 ?_ (V:=.bool r.inf)
 refine .dk (fun u=>rpnV r::sq u1 0 3 (U::U::u 0::u 1::us 13)) K5 bel fun u2 w2 D bel=>?_
 have E2_1:=D.q 1
 replace B2:=D.k B2
 replace B3:=D.k B3
 clear D
 rcases Bool.eq_false_or_eq_true r.inf with c6 | c6
 ·
  refine wp_cond_true ((E2_1).trans (congrArg Value.bool c6)) ?_
  refine gd1 6 (Amb S W) 4 B3 fun _ K7=>?_
  refine .e rfl (V:=.agg #[.bool true,.pointer none,.pointer none]) (fun H=>by have k0:=H.c (.bool true); clear H; go_simp) ?_
  refine .e rfl (fun H=>x_ldr (H.z 1 E1_0) (H.b1 B2 (Ne.symm N2_3))) ?_
  refine .e rfl (V:=rpnV (RPn.mk true rz)) (fun H=>by have k0:=H.c (.bool true); clear H; go_simp) ?_
  refine .e rfl (V:=.bool (decide (r = RPn.mk true rz))) (fun H=>ex_eql_pn (r:=r) (q:=RPn.mk true rz) _ _ rfl (H.g 9 1) (H.g 10 2) rfl) ?_
  refine .s1 rfl B3 (fun H=>⟨H.z 2 E1_1,H.g 8 0⟩) ?_
  refine .mv rfl 3 ?_
  refine .d1 (fun u=>rpnV r::u1 0::u1 1::u 5::U::U::u2 0::u2 1::sq u 0 4 (us 9)) K7 bel A3 fun u3 w3 D bel=>?_
  have E3_5:=D.q 5
  replace B3:=D.ol 4
  clear D
  refine wp_ret ?_
  refine ret_ok rfl (by exact results_mix rfl (by exact E1_1) B3 Tryz.underlying229 rfl (by kernel_rfl) (by exact E3_5)) ⟨_,rfl,?_,bel⟩
  exact ⟨_,_,rfl,(PlaceJ.mk (show Value.oneCell' _ = true from rfl) ⟨_,rfl⟩ ⟨_,rfl⟩),(spot_1 c6)⟩
 ·
  refine wp_cond_false ((E2_1).trans (congrArg Value.bool c6)) ?_
  refine wp_skip ?_
  refine K4 _ _ ?_
  refine gs 9 (Amb S W) fun _ K8=>?_
  refine .fz rfl 1 1 E1_0 ?_
  refine .lp rfl 0 (rgC r.z) B2 ?_
  refine .cR rfl [] Tryz.func197 (fun H=>⟨_,ar1 (H.g 14 1),eOfR _⟩) ?_
  refine .mn rfl 2 [2] ?_
  refine Go2.fn (i:=4) rfl (G0 rfl) (.val 4 [2,3] (NumP (gvm r.z))) (fun u μ ρ H=>by have e12:=H.r 12 3; have h0:=(H.a 3 rfl); obtain ⟨x0,x1,h1,h2⟩:=h0; rw [h1] at e12; exact ⟨x0,by clear H; go_simp,SP.tupKeep (by decide) (by decide) h2.1⟩) ?_
  refine .e rfl (V:=.bool (gmay r.z)) (fun H=>by have e12:=H.r 12 3; have h0:=(H.a 3 rfl); obtain ⟨x0,x1,h1,h2,h3⟩:=h0; rw [h1] at e12; have h3:x1 = .bool (gmay r.z):=h3; subst h3; clear H; go_simp) ?_
  refine .al rfl (#[.pointer none,.pointer none]) ?_
  refine Go2.storeOwn (i:=7) (m:=6) rfl rfl (.head _) (SP.cells 6 [4] (fun u=>#[((u 4).v.cells.getD 0 undef),((u 4).v.cells.getD 1 undef)]) 178 (by intro u u' h; simp [h 4 (by simp)])) (fun u μ ρ b H h0 hB hb=>?_) ?_
  · have e4:=H.r 4 6; have e16:=H.r 16 4
    rw [h0] at e4
    obtain ⟨x1,x2,h1,h2,h3⟩:=(H.a 4 rfl)
    have o1:=VP1.ratn h2
    have o2:=VP1.ratn h3
    rw [h1] at e16
    refine ⟨μ.setRow b #[x1,x2],ex_store_row 178 _ _ rfl e4 e16 hb (by kernel_rfl) rfl (by simp [o1,o2]),fun g=>⟨b,?_,hB,?_⟩,setRow_only _ _ _⟩
    · rw [upd_other _ _ (by decide)]; exact h0
    · rw [setRow_at hb]; try simp [upd,h1,Value.cells]
  refine .mv rfl 5 ?_
  refine .dk (fun u=>rpnV r::sq u1 0 3 (u 6::u 8::u2 0::u2 1::U::U::U::U::u 3::sq u 0 3 (u 4::u 5::us 3))) K8 bel fun u4 w4 D bel=>?_
  obtain ⟨x9,x10,E4_4,F_x9,F_x10⟩:=(D.rr 4)
  obtain ⟨b11,E4_6,A11,B11⟩:=(D.a 7 rfl)
  replace A11:=le2 D.le A11
  have E4_8:=D.q 8
  have N3_11:=D.n1 6 (lt_of B3) E4_6
  replace B3:=D.k B3
  simp only [Value.cells,E4_4,E4_6] at B11
  replace B11:w4.heap[b11]? = some (.cells #[x9,x10] 178 (0,0)):=B11
  clear D
  refine gs1 5 (Amb S W) 3 B3 fun _ K12=>?_
  refine .e rfl (fun H=>x_ldr (H.z 4 E4_6) (H.b1 B11 N3_11)) ?_
  refine .e rfl (V:=.agg #[.bool false,x9,x10]) (fun H=>by have e18:=H.g 18 0; clear H; go_simp) ?_
  refine .mz rfl 5 E4_8 ?_
  refine Go2.storeOld (i:=3) 0 b3 rfl rfl rfl ⟨_,_,_,B3,rfl⟩ (SP.old 0 b3 [] (fun u=>#[.bool false,x9,x10]) 229 (by intro u u' h; simp []) (lt_of B3) (by intro y k hy; match y,hy with | 0,hy=>rfl)) (fun u μ ρ H=>?_) ?_
  · have e2:=H.z 2 E1_1; have e19:=H.g 19 1; have o_x9:=VP1.ratn F_x9; have o_x10:=VP1.ratn F_x10; have hb:=H.blkOld B3 0 3 rfl (.inl rfl)
    refine ⟨μ.setRow b3 #[.bool false,x9,x10],ex_store_row 229 _ _ rfl e2 e19 hb (by kernel_rfl) rfl (by simp [o_x9,o_x10] <;> rfl),fun g=>?_,setRow_only _ _ _⟩
    show (World.setRow _ _ _).heap[b3]? = _
    rw [setRow_at hb]; try simp [upd]
  refine .mv rfl 2 ?_
  refine .d1 (fun u=>rpnV r::u1 0::u1 1::u 4::u4 6::u4 8::u2 0::u2 1::U::U::U::U::u4 3::sq u4 0 3 (u4 4::u4 5::sq u 0 3 [])) K12 bel A3 fun u5 w5 D bel=>?_
  have E5_4:=D.q 4
  replace B3:=D.ol 3
  replace F_x9:=D.gr (RatN ((gvm r.z).re)) F_x9
  replace F_x10:=D.gr (RatN ((gvm r.z).im)) F_x10
  clear D
  refine wp_ret ?_
  refine ret_ok rfl (by exact results_mix rfl (by exact E1_1) B3 Tryz.underlying229 rfl (by kernel_rfl) (by exact E5_4)) ⟨_,rfl,?_,bel⟩
  exact ⟨_,_,rfl,(PlaceJ.mk (show Value.oneCell' _ = true from rfl) (RatN.ptr F_x9) (RatN.ptr F_x10)),(spot_0 c6)⟩
end Go.Proofs.YtcpjdjnaipbieaaGreat
namespace Go.Proofs.YtcpjdjnaipbieaaGreat
open Go.RowKit Rgn
theorem tupJ {φ:VP} {S:Nat → Prop} {w:World} {v:Value} (h:φ.p S v w):(VP.tup φ (VP.is (.bool false))).p S (.tuple #[v,.bool false]) w:=⟨_,_,rfl,h,rfl⟩
theorem ringJ0 {S:Nat → Prop} {w:World}:(RingJ 0).p S (.agg #[.pointer none,.pointer none,.pointer none,.pointer none]) w:=⟨_,_,_,_,rfl,⟨_,rfl⟩,⟨_,rfl⟩,⟨_,rfl⟩,⟨_,rfl⟩⟩
theorem toJ {P:Program} {f:FuncId} {args:Array Value} {W:World} {φ ψ:VP} {b:Bool} {S:Nat → Prop} (h:Calls P f args W (Ret (VP.tup φ (VP.is (.bool b))) S W)) (hb:b = false) (hj:∀ v w (S:Nat → Prop),φ.p S v w → ψ.p S v w):Calls P f args W (Ret (VP.tup ψ (VP.is (.bool false))) S W):=by
 subst hb
 exact h.mono fun _ _ ⟨v,h1,⟨a,b,h2,h3,h4⟩,h5⟩=>⟨v,h1,⟨a,b,h2,hj _ _ _ h3,h4⟩,h5⟩
theorem eWheelO {S:Nat → Prop} {W:World} (c:Ci) (p0:ciOk (rci c) = true):Calls Tryz.prog 155 #[ciV c] W (Ret (VP.tup (RingP c) (VP.is (.bool true))) S W):=by
 obtain ⟨h1,h2,h3⟩:=ciOk_c p0
 have h:=eWheelY (S:=S) (W:=W) c h1 h2
 rw [decide_eq_true h3] at h
 exact h
theorem eWheelN {S:Nat → Prop} {W:World} (r:RCi) (p0:ciOk r = false):Calls Tryz.prog 155 #[rciV r] W (Ret (VP.tup (RingJ 0) (VP.is (.bool false))) S W):=by
 cases h1:gmay r.b with
 | false=>exact retOf (eWheelA r h1) fun _=>tupJ ringJ0
 | true =>
  cases h2:fmay r.a with
  | false=>exact retOf (eWheelB r h1 h2) fun _=>tupJ ringJ0
  | true =>
   cases h3:fmay r.c with
   | false=>exact retOf (eWheelC r h1 h2 h3) fun _=>tupJ ringJ0
   | true =>
    obtain ⟨c,rfl,hf⟩:=ci_of h2 h1 h3
    cases h4:c.pos with
    | false=>exact retOf (eWheelP c hf h4) fun _=>tupJ ringJ0
    | true =>
     refine toJ (eWheelY c hf h4) (decide_eq_false fun e=>?_) fun _ _ _ h=>RingP.j h
     exact ciOk_no p0 ⟨c,rfl,hf,h4,e⟩
end Go.Proofs.YtcpjdjnaipbieaaGreat
namespace Go.Proofs.YtcpjdjnaipbieaaGreat
open Go.RowKit Rgn Eng
set_option maxHeartbeats 4000000
set_option maxRecDepth 100000
variable {S:Nat → Prop} {W:World}
theorem eOpenR (r:RMb) :
  Calls Tryz.prog 131 #[rmbV r] W (RetAnd (RetIf (((((gmay r.a) && (gmay r.b)) && (gmay r.c)) && (gmay r.d)) = false) (RetV (.tuple #[.agg #[.pointer none,.pointer none,.pointer none,.pointer none,.pointer none,.pointer none,.pointer none,.pointer none,.bool false],.bool false]) W)) (RetAnd (RetIf (((((gmay r.a) && (gmay r.b)) && (gmay r.c)) && (gmay r.d)) = true ∧ (((Mb.mk (gvm r.a) (gvm r.b) (gvm r.c) (gvm r.d) r.t).det).zero) = true) (RetV (.tuple #[.agg #[.pointer none,.pointer none,.pointer none,.pointer none,.pointer none,.pointer none,.pointer none,.pointer none,.bool false],.bool false]) W)) (RetIf (((((gmay r.a) && (gmay r.b)) && (gmay r.c)) && (gmay r.d)) = true ∧ (((Mb.mk (gvm r.a) (gvm r.b) (gvm r.c) (gvm r.d) r.t).det).zero) = false) (Ret (VP.tup (MatP (mvm r)) (VP.is (.bool (mvm r).form))) S W)))):=by
 have f:=mvm_ht r
 have o1:ht (Cx.ofInt (1:Int) (0:Int)).re = 2:=by decide
 have o2:ht (Cx.ofInt (1:Int) (0:Int)).im = 2:=by decide
 refine Run.goP (S:=S) (Pack.nil.k (rmbV r) (rmbC r).toList (.s (.agg (ks 0 33)))) Tryz.func131 rfl ?_
 refine Run.cR spNumK (fun β ℓ w H=>eOfR r.a) ?_
 refine Run.cR spNumK (fun β ℓ w H=>eOfR r.b) ?_
 refine Run.an (gmay r.a) (gmay r.b) ?_
 refine Run.cR spNumK (fun β ℓ w H=>eOfR r.c) ?_
 refine Run.an (gmay r.a && gmay r.b) (gmay r.c) ?_
 refine Run.cR spNumK (fun β ℓ w H=>eOfR r.d) ?_
 refine Run.an (gmay r.a && gmay r.b && gmay r.c) (gmay r.d) ?_
 rcases Bool.eq_false_or_eq_true (gmay r.a && gmay r.b && gmay r.c && gmay r.d) with h1 | h1
 · refine Run.kn h1 ?_
   refine Run.cR spNum (fun β ℓ w H=>mtDet (Mb.mk (gvm r.a) (gvm r.b) (gvm r.c) (gvm r.d) r.t) (MatP.mk (H.f 0) (H.f 1) (H.f 2) (H.f 3) (H.f 4) (H.f 5) (H.f 6) (H.f 7)) (by dsimp only at *; omega)) ?_
   refine Run.cV [.bool (Mb.mk (gvm r.a) (gvm r.b) (gvm r.c) (gvm r.d) r.t).det.zero] kb (fun β ℓ w H=>eZero (Mb.mk (gvm r.a) (gvm r.b) (gvm r.c) (gvm r.d) r.t).det (NumP.mk (H.f 8) (H.f 9))) ?_
   rcases Bool.eq_false_or_eq_true (Mb.mk (gvm r.a) (gvm r.b) (gvm r.c) (gvm r.d) r.t).det.zero with h2 | h2
   · refine Run.kn h2 ?_
     exact Run.fin (fun β ℓ w I=>⟨fun c=>absurd c (by simp [h1]),fun _=>RetV.mk rfl I.bel,fun c=>absurd c.2 (by simp [h2])⟩)
   · refine Run.kn h2 ?_
     refine Run.cR spNum (fun β ℓ w H=>eInt 1 0 (by decide) (by decide) (by decide) (by decide)) ?_
     have fin:∀ {b:Bool} {β:Nat → Nat} {ℓ:Nat → Value} {w:World},b = (mvm r).form → (RatN (mvm r).a.re).p (Amb S W) (ℓ 0) w → (RatN (mvm r).a.im).p (Amb S W) (ℓ 1) w → (RatN (mvm r).b.re).p (Amb S W) (ℓ 2) w → (RatN (mvm r).b.im).p (Amb S W) (ℓ 3) w → (RatN (mvm r).c.re).p (Amb S W) (ℓ 4) w → (RatN (mvm r).c.im).p (Amb S W) (ℓ 5) w → (RatN (mvm r).d.re).p (Amb S W) (ℓ 6) w → (RatN (mvm r).d.im).p (Amb S W) (ℓ 7) w → Below W.heap.size W w →
         RetAnd (RetIf ((gmay r.a && gmay r.b && gmay r.c && gmay r.d) = false) (RetV (.tuple #[.agg #[.pointer none,.pointer none,.pointer none,.pointer none,.pointer none,.pointer none,.pointer none,.pointer none,.bool false],.bool false]) W)) (RetAnd (RetIf ((gmay r.a && gmay r.b && gmay r.c && gmay r.d) = true ∧ (Mb.mk (gvm r.a) (gvm r.b) (gvm r.c) (gvm r.d) r.t).det.zero = true) (RetV (.tuple #[.agg #[.pointer none,.pointer none,.pointer none,.pointer none,.pointer none,.pointer none,.pointer none,.pointer none,.bool false],.bool false]) W)) (RetIf ((gmay r.a && gmay r.b && gmay r.c && gmay r.d) = true ∧ (Mb.mk (gvm r.a) (gvm r.b) (gvm r.c) (gvm r.d) r.t).det.zero = false) (Ret (VP.tup (MatP (mvm r)) (VP.is (.bool (mvm r).form))) S W))) (.returned (.tuple #[.agg #[ℓ 0,ℓ 1,ℓ 2,ℓ 3,ℓ 4,ℓ 5,ℓ 6,ℓ 7,.bool r.t],.bool b])) w :=
       fun e g0 g1 g2 g3 g4 g5 g6 g7 bel=>⟨fun c=>absurd c (by simp [h1]),fun c=>absurd c.2 (by simp [h2]),fun _=>⟨_,rfl,⟨_,_,rfl,MatP.mk g0 g1 g2 g3 g4 g5 g6 g7,congrArg Value.bool e⟩,bel⟩⟩
     rcases Bool.eq_false_or_eq_true (((gvm r.c).sub (Cx.ofInt (1:Int) (0:Int))).zero) with c1 | c1
     · refine Run.dr ?_
       refine RunD.cV [] (cb true) (fun β ℓ w H=>eSame (gvm r.c) (Cx.ofInt 1 0) (NumP.mk (H.f 4) (H.f 5)) (NumP.mk (H.f 10) (H.f 11)) (by dsimp only at *; omega)) ?_ (hV:=fun _ _=>congrArg Value.bool c1)
       refine RunD.en ?_
       exact Run.fin (fun β ℓ w H=>fin (β:=β) (form_1 (m:=mvm r) c1).symm (H.f 0) (H.f 1) (H.f 2) (H.f 3) (H.f 4) (H.f 5) (H.f 6) (H.f 7) H.bel)
     · rcases Bool.eq_false_or_eq_true ((gvm r.c).zero) with c2 | c2
       · refine Run.dr ?_
         refine RunD.cV [] (cb false) (fun β ℓ w H=>eSame (gvm r.c) (Cx.ofInt 1 0) (NumP.mk (H.f 4) (H.f 5)) (NumP.mk (H.f 10) (H.f 11)) (by dsimp only at *; omega)) ?_ (hV:=fun _ _=>congrArg Value.bool c1)
         refine RunD.cV [] (cb true) (fun β ℓ w H=>eZero (gvm r.c) (NumP.mk (H.f 4) (H.f 5))) ?_ (hV:=fun _ _=>congrArg Value.bool c2)
         refine RunD.cV [.bool ((mvm r).d.sub (Cx.ofInt 1 0)).zero] kb (fun β ℓ w H=>eSame (gvm r.d) (Cx.ofInt 1 0) (NumP.mk (H.f 6) (H.f 7)) (NumP.mk (H.f 10) (H.f 11)) (by dsimp only at *; omega)) ?_
         refine RunD.en ?_
         exact Run.fin (fun β ℓ w H=>fin (β:=β) (form_3 (m:=mvm r) c1 c2).symm (H.f 0) (H.f 1) (H.f 2) (H.f 3) (H.f 4) (H.f 5) (H.f 6) (H.f 7) H.bel)
       · refine Run.dr ?_
         refine RunD.cV [] (cb false) (fun β ℓ w H=>eSame (gvm r.c) (Cx.ofInt 1 0) (NumP.mk (H.f 4) (H.f 5)) (NumP.mk (H.f 10) (H.f 11)) (by dsimp only at *; omega)) ?_ (hV:=fun _ _=>congrArg Value.bool c1)
         refine RunD.cV [] (cb false) (fun β ℓ w H=>eZero (gvm r.c) (NumP.mk (H.f 4) (H.f 5))) ?_ (hV:=fun _ _=>congrArg Value.bool c2)
         refine RunD.en ?_
         exact Run.fin (fun β ℓ w H=>fin (β:=β) (form_2 (m:=mvm r) c1 c2).symm (H.f 0) (H.f 1) (H.f 2) (H.f 3) (H.f 4) (H.f 5) (H.f 6) (H.f 7) H.bel)
 · refine Run.kn h1 ?_
   exact Run.fin (fun β ℓ w I=>⟨fun _=>RetV.mk rfl I.bel,fun c=>absurd c.1 (by simp [h1]),fun c=>absurd c.1 (by simp [h1])⟩)
end Go.Proofs.YtcpjdjnaipbieaaGreat
namespace Go.Proofs.YtcpjdjnaipbieaaGreat
open Go.RowKit Rgn
theorem matJ0 {S:Nat → Prop} {w:World}:(MatJ 0).p S (.agg #[.pointer none,.pointer none,.pointer none,.pointer none,.pointer none,.pointer none,.pointer none,.pointer none,.bool false]) w :=
 ⟨_,_,_,_,_,_,_,_,_,rfl,⟨_,rfl⟩,⟨_,rfl⟩,⟨_,rfl⟩,⟨_,rfl⟩,⟨_,rfl⟩,⟨_,rfl⟩,⟨_,rfl⟩,⟨_,rfl⟩,rfl⟩
theorem eOpenO {S:Nat → Prop} {W:World} (m:Mb) (p0:mbOk (rmb m) = true):Calls Tryz.prog 131 #[mbV m] W (Ret (VP.tup (MatP m) (VP.is (.bool true))) S W):=by
 obtain ⟨h1,h2,h3⟩:=mbOk_c p0
 obtain ⟨k1,k2,k3,k4⟩:=and_4 h1
 have hg:(gmay (rg m.a) && gmay (rg m.b) && gmay (rg m.c) && gmay (rg m.d)) = true:=by rw [gmay_rg,gmay_rg,gmay_rg,gmay_rg]; exact h1
 have e:mvm (rmb m) = m:=mvm_rmb hg
 have h:=eOpenR (S:=S) (W:=W) (rmb m)
 refine h.mono fun _ _ h=>?_
 have h5:=h.2.2 ⟨hg,by show (mvm (rmb m)).det.zero = false; rw [e]; exact h2⟩
 rw [e,h3] at h5
 exact h5
theorem eOpenN {S:Nat → Prop} {W:World} (r:RMb) (p0:mbOk r = false):Calls Tryz.prog 131 #[rmbV r] W (Ret (VP.tup (MatJ 0) (VP.is (.bool false))) S W):=by
 have h:=eOpenR (S:=S) (W:=W) r
 have toV:∀ {e w'},RetV (.tuple #[.agg #[.pointer none,.pointer none,.pointer none,.pointer none,.pointer none,.pointer none,.pointer none,.pointer none,.bool false],.bool false]) W e w' → Ret (VP.tup (MatJ 0) (VP.is (.bool false))) S W e w' := fun h=>by
  obtain ⟨h1,h2⟩:=h.is
  exact ⟨_,h1,⟨_,_,rfl,matJ0,rfl⟩,h2⟩
 refine h.mono fun e w' h=>?_
 cases hg:(gmay r.a && gmay r.b && gmay r.c && gmay r.d) with
 | false=>exact toV (h.1 hg)
 | true =>
  obtain ⟨m,rfl,hf⟩:=mb_of hg
  have em:mvm (rmb m) = m:=mvm_rmb hg
  cases hz:(mvm (rmb m)).det.zero with
  | true=>exact toV (h.2.1 ⟨hg,hz⟩)
  | false =>
   have h5:=h.2.2 ⟨hg,hz⟩
   obtain ⟨v,h6,⟨a,b,h7,h8,h9⟩,h10⟩:=h5
   have hb:b = .bool false:=by
    rw [h9]
    cases hm:(mvm (rmb m)).form with
    | false=>rfl
    | true=>exact absurd ⟨m,rfl,hf,em ▸ hz,em ▸ hm⟩ (mbOk_no p0)
   exact ⟨v,h6,⟨a,b,h7,MatP.j h8,hb⟩,h10⟩
end Go.Proofs.YtcpjdjnaipbieaaGreat
